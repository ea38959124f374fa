/- A part of the proof about FnOneForm (LaAct, LaPan). -/
import Derived.Test.YtjgbnaihpicpgaaGreatOa
set_option linter.all false
namespace ng
open Go
abbrev Post:=Exit->List AV->iw->Prop
structure Ext(C C':Ctx):Prop where
 size:C.w.heap.size<=C'.w.heap.size
 k:C'.k=C.k
 ro:C'.ro=C.ro
 nm:C'.nm=C.nm
 dom:C'.dom=C.dom
 O:C'.O=C.O
 inv:∀β s w,Inv C' β s w->Inv C β s w
theorem Ext.refl(C:Ctx):Ext C C:=⟨aA _,rfl,rfl,rfl,rfl,rfl,fun _ _ _ h=>h⟩
theorem Ext.trans{C C' C'':Ctx}(h:Ext C C')(h':Ext C' C''):Ext C C'':=
 ⟨cp h.size h'.size,h'.k.trans h.k,h'.ro.trans h.ro,h'.nm.trans h.nm,h'.dom.trans h.dom,h'.O.trans h.O,fun β s w hi=>h.inv β s w (h'.inv β s w hi)⟩
theorem Ext.oh{C C':Ctx}(h:Ext C C'):C'.oh=C.oh:=by unfold Ctx.oh;rw[h.ro]
theorem Ext.iz{C C':Ctx}(h:Ext C C')(β:iE)(s:iw):C'.iz β s=C.iz β s:=by unfold Ctx.iz;rw[h.O]
def Ctx.plain(C:Ctx):Prop:=C.ro=none/\C.nm=false/\C.dom<=C.w.heap.size
theorem Ext.plain{C C':Ctx}(h:Ext C C')(hp:C.plain):C'.plain:=⟨h.ro.trans hp.1,h.nm.trans hp.2.1,by rw[h.dom];exact cp hp.2.2 h.size⟩
def CWp(P:Program)(C:Ctx)(c:Code)(Q:Post)(env:List AV)(s:iw):Prop:=
 ∀β a w,St C β env s a w->c.wpIn C.oh 0 P (fun e a' w'=>∃C',Ext C C'/\∃β' env' s',St C' β' env' s' a' w'/\Q e env' s') a w
def ir.flat:ir->Bool
 |.seq a b=>a.flat&&b.flat
 |.cond _ a b=>a.flat&&b.flat
 |.block _ a=>a.flat
 |.loop a=>a.flat
 |.ghost a=>a.flat
 |.scope a=>a.flat
 |.G8 .. =>false
 |_=>true
def ot(P:Program)(k:Nat)(mc:ir)(Q:Post)(env:List AV)(s:iw):Prop:=
 ∀C:Ctx,C.k=k->(mc.flat=true\/C.plain)->∀c,mT P c=some mc.erase->CWp P C c Q env s
def yS(K:List AV->iw->Prop)(Q:Post):Post
 |.normal,env,s=>K env s
 |e,env,s=>Q e env s
def CS(id:Nat)(Q:Post):Post
 |.exit id',env,s=>if id'=id then Q .normal env s else Q (.exit id') env s
 |e,env,s=>Q e env s
def T1(Q:Post):Post
 |.goto _,_,_=>False
 |e,env,s=>Q e env s
def vA(P:Program)(k0:Nat):List iO->List AV->iw->(List AV->iw->Prop)->Prop
 |[],env,s,K=>K env s
 |m::ms,env,s,K=>match m.guard with
  |none=>qT P k0 m.op env s fun x env s=>vA P k0 ms (iZ m.dst env x) s K
  |some (g,want)=>match g with
   |none=>vA P k0 ms (iZ m.dst env (.mB [])) s K
   |some d=>match env.getD d .iG with
    |.d (.lit (.bool b))=>Br b want (qT P k0 m.op env s fun x env s=>vA P k0 ms (iZ m.dst env x) s K) (vA P k0 ms (iZ m.dst env (.mB [])) s K)
    |.mB []=>vA P k0 ms (iZ m.dst env (.mB [])) s K
    |_=>False
theorem LM{P:Program}{c:Code}(h:mT P c=some .skip):c=.skip:=by
 cases c<;>simp[mT,aq,ay]at h⊢
 case region=>obtain⟨ms,_,h⟩:=h;split at h<;>cases h
theorem Om{P:Program}{c:Code}(h:mT P c=some .ret):c=.ret:=by
 cases c<;>simp[mT,aq,ay]at h⊢
 case region=>obtain⟨ms,_,h⟩:=h;split at h<;>cases h
theorem LJ{P:Program}{c:Code}{id:Nat}(h:mT P c=some (.exit id)):c=.exit id:=by
 cases c<;>simp[mT,aq,ay]at h⊢
 case region=>obtain⟨ms,_,h⟩:=h;split at h<;>cases h
 case exit=>exact h
theorem GU{P:Program}{c:Code}{x y:ir}(h:mT P c=some (.seq x y)):∃a b,c=.seq a b/\mT P a=some x/\mT P b=some y:=by
 cases c<;>simp[mT,aq,ay]at h⊢
 case region=>obtain⟨ms,_,h⟩:=h;split at h<;>cases h
 case seq=>exact⟨_,_,⟨rfl,rfl⟩,h⟩
theorem LH{P:Program}{c:Code}{o:Operand}{x y:ir}(h:mT P c=some (.cond o x y)):∃a b,c=.cond o a b/\mT P a=some x/\mT P b=some y:=by
 cases c<;>simp[mT,aq,ay]at h⊢
 case region=>obtain⟨ms,_,h⟩:=h;split at h<;>cases h
 case cond=>obtain⟨x',h1,y',h2,rfl,rfl,rfl⟩:=h;exact⟨_,_,⟨rfl,rfl,rfl⟩,h1,h2⟩
theorem Dw{P:Program}{c:Code}{id:Nat}{x:ir}(h:mT P c=some (.block id x)):∃a,c=.block id a/\mT P a=some x:=by
 cases c<;>simp[mT,aq,ay]at h⊢
 case region=>obtain⟨ms,_,h⟩:=h;split at h<;>cases h
 case block=>exact⟨_,⟨h.2,rfl⟩,h.1⟩
theorem EG{P:Program}{c:Code}{x:ir}(h:mT P c=some (.loop x)):∃a,c=.loop a/\mT P a=some x:=by
 cases c<;>simp[mT,aq,ay]at h⊢
 case region=>obtain⟨ms,_,h⟩:=h;split at h<;>cases h
 case loop=>exact h
theorem On{P:Program}{c:Code}{g:Operand}{ps:List Nat}{x y:ir}(h:mT P c=some (.G8 g ps x y)):
 ∃ps' a b,c=.rangeFunc g ps' a b/\ps'.toList=ps/\mT P a=some x/\mT P b=some y:=by
 cases c<;>simp[mT,aq,ay]at h⊢
 case region=>obtain⟨ms,_,h⟩:=h;split at h<;>cases h
 case rangeFunc=>obtain⟨x',h1,y',h2,rfl,rfl,rfl,rfl⟩:=h;exact⟨_,_,_,⟨rfl,rfl,rfl,rfl⟩,rfl,h1,h2⟩
theorem Dx{P:Program}{c:Code}{ms:List iO}(h:mT P c=some (.ie ms)):∃id ops,c=.region id ops false/\ops.toList.mapM (pU P ops)=some ms:=by
 cases c<;>simp[mT,aq,ay]at h⊢
 case region=>
  obtain⟨ms',h1,h2⟩:=h;split at h2
  ·cases h2
  ·rename_i hd;cases h2;exact⟨_,_,⟨rfl,rfl,by simpa using hd⟩,h1⟩
section
variable{P:Program}{k:Nat}{Q:Post}{env:List AV}{s:iw}
theorem Gs{x y:Bool}{p:Prop}(h:(x&&y)=true\/p):(x=true\/p)/\(y=true\/p):=by
 rcases h with h|h
 ·rw[a_]at h;exact⟨.inl h.1,.inl h.2⟩
 ·exact⟨.inr h,.inr h⟩
theorem U9(h:Q .normal env s):ot P k .skip Q env s:=fun C _ _ c hc β a w hst=>by rw[LM hc];exact wpIn_skip ⟨C,.refl C,β,env,s,hst,h⟩
theorem XM(h:Q .ret env s):ot P k .ret Q env s:=fun C _ _ c hc β a w hst=>by rw[Om hc];exact wpIn_ret ⟨C,.refl C,β,env,s,hst,h⟩
theorem U5{id:Nat}(h:Q (.exit id) env s):ot P k (.exit id) Q env s:=fun C _ _ c hc β a w hst=>by rw[LJ hc];exact wpIn_exit ⟨C,.refl C,β,env,s,hst,h⟩
theorem XO{x y:ir}(h:ot P k x (yS (fun env s=>ot P k y Q env s) Q) env s):ot P k (.seq x y) Q env s:=fun C hC hf c hc β a w hst=>by
 obtain⟨c1,c2,rfl,h1,h2⟩:=GU hc;obtain⟨f1,f2⟩:=Gs hf;refine wpIn_seq (dD (h C hC f1 c1 h1 β a w hst) fun e a' w' he=>?_);obtain⟨C',hx,β',env',s',hst',hq⟩:=he;cases e with
 |normal=>
  have:=hq C' (hx.k.trans hC) (f2.imp id hx.plain) c2 h2 β' a' w' hst';rw[hx.oh]at this;exact dD this fun e a' w' ⟨C'',hx',r⟩=>⟨C'',hx.trans hx',r⟩
 |exit id=>exact⟨C',hx,β',env',s',hst',hq⟩
 |goto l=>exact⟨C',hx,β',env',s',hst',hq⟩
 |ret=>exact⟨C',hx,β',env',s',hst',hq⟩
 |panic ch=>exact⟨C',hx,β',env',s',hst',hq⟩
 |outgrown=>exact⟨C',hx,β',env',s',hst',hq⟩
theorem Re{id:Nat}{x:ir}(h:ot P k x (CS id Q) env s):ot P k (.block id x) Q env s:=fun C hC hf c hc β a w hst=>by
 obtain⟨c1,rfl,h1⟩:=Dw hc;refine wpIn_block (dD (h C hC hf c1 h1 β a w hst) fun e a' w' he=>?_);obtain⟨C',hx,β',env',s',hst',hq⟩:=he;cases e with
 |exit id'=>
  simp only[CS]at hq;simp only[Exit.inBlock];split<;>rename_i hid<;>simp only[hid,aC,aB]at hq<;>exact⟨C',hx,β',env',s',hst',hq⟩
 |normal=>exact⟨C',hx,β',env',s',hst',hq⟩
 |goto l=>exact⟨C',hx,β',env',s',hst',hq⟩
 |ret=>exact⟨C',hx,β',env',s',hst',hq⟩
 |panic ch=>exact⟨C',hx,β',env',s',hst',hq⟩
 |outgrown=>exact⟨C',hx,β',env',s',hst',hq⟩
theorem IX{P:Program}{c:Code}{x:ir}(h:mT P c=some (.scope x)):∃a,c=.scope a/\mT P a=some x:=by
 cases c<;>simp[mT,aq,ay]at h⊢
 case region=>obtain⟨ms,_,h⟩:=h;split at h<;>cases h
 case scope=>exact h
theorem IW{P:Program}{c:Code}(h:mT P c=some .label):∃l,c=.label l:=by
 cases c<;>simp[mT,aq,ay]at h⊢
 case region=>obtain⟨ms,_,h⟩:=h;split at h<;>cases h
section
variable{b:Frame}{a:Act}{ks:List Item}{cs:List Frame}{w:World}
theorem sE{c:Code}:step P (lone (b.atR a (.code (.scope c)::ks)) cs w)=.next (lone (b.atR a (.code c:: .inScope c::ks)) cs w):=
 step_lone_go (by simp[stepG,stepG.exec,Frame.atR])
theorem El{c:Code}:step P (lone (b.atR a (.inScope c::ks)) cs w)=.next (lone (b.atR a ks) cs w):=
 step_lone_go (by simp[stepG,stepG.exec,Frame.atR])
theorem Js{F:Fence}{n:Nat}{Q:Exit->Act->World->Prop}{c:Code}(h:c.wpIn F n P (fun e a w=>(∀l,e≠ .goto l)/\Q e a w) a w):(Code.scope c).wpIn F n P Q a w:=by
 intro b k cs hro hb hr;have h0:(lone (b.atR a (.code (.scope c)::k)) cs w).fenced P F:=fe hb hr rfl;obtain⟨e,a₁,w₁,hq,harr⟩:=h b (.inScope c::k) cs hro hb hr;cases e with
 |normal=>exact⟨.normal,a₁,w₁,hq.2,.head h0 sE (StepsIn.trans harr (.one (fe hb hr rfl) El))⟩
 |exit id'=>
  have hx:exitTo id' (.inScope c::k)=exitTo id' k:=by simp[exitTo]
  exact⟨.exit id',a₁,w₁,hq.2,fun k' hk=>.head h0 sE (harr.1 k' (by rw[hx];exact hk)),
   fun hr' hk=>let⟨k₁,h1,h2⟩:=harr.2 hr' (by rw[hx];exact hk);⟨k₁,h1,.head h0 sE h2⟩⟩
 |goto l=>exact absurd rfl (hq.1 l)
 |ret=>exact⟨_,a₁,w₁,hq.2,.of_steps (.one h0 sE) harr⟩
 |panic ch=>exact⟨_,a₁,w₁,hq.2,.of_steps (.one h0 sE) harr⟩
 |outgrown=>exact⟨_,a₁,w₁,hq.2,.of_steps (.one h0 sE) harr⟩
end
theorem Ri(h:Q .normal env s):ot P k .label Q env s:=fun C _ _ c hc β a w hst=>by
 obtain⟨l,rfl⟩:=IW hc;exact wpIn_label ⟨C,.refl C,β,env,s,hst,h⟩
theorem Rk{x:ir}(h:ot P k x (T1 Q) env s):ot P k (.scope x) Q env s:=fun C hC hf c hc β a w hst=>by
 obtain⟨c1,rfl,h1⟩:=IX hc;refine Js (dD (h C hC hf c1 h1 β a w hst) fun e a' w' he=>?_);obtain⟨C',hx,β',env',s',hst',hq⟩:=he;cases e with
 |goto l=>exact hq.elim
 |_=>exact⟨(fun l e=>nomatch e),C',hx,β',env',s',hst',hq⟩
theorem U3{o:Operand}{x y:ir}{b:Bool}(hb:ev env o=.d (.lit (.bool b)))(h:Br b true (ot P k x Q env s) (ot P k y Q env s)):
 ot P k (.cond o x y) Q env s:=fun C hC hf c hc β a w hst=>by
 obtain⟨c1,c2,rfl,h1,h2⟩:=LH hc;obtain⟨f1,f2⟩:=Gs hf;have hv:=hst.ev o;rw[hb]at hv;refine wpIn_cond (qy hv) ?_;unfold Br at h;cases b with
 |true=>exact h C hC f1 c1 h1 β a w hst
 |false=>exact h C hC f2 c2 h2 β a w hst
def iV(k:Nat)(env:List AV)(s:iw)(env':List AV)(s':iw):Prop:=
 ∀(C:Ctx)(β:iE)(a:Act)(w:World),C.k=k->St C β env s a w->∃β',St C β' env' s' a w
theorem Rh{x:ir}{env':List AV}{s':iw}(hw:iV k env s env' s')(h:ot P k x Q env' s'):ot P k (.ghost x) Q env s:=fun C hC hf c hc β a w hst=>by
 obtain⟨β',hst'⟩:=hw C β a w hC hst;exact h C hC hf c hc β' a w hst'
theorem U7{x:ir}{ι:Type}(E:ι->List AV)(S:ι->iw)(inv:ι->Prop)(μ:ι->Nat)(i0:ι)(h0:inv i0)(hw:iV k env s (E i0) (S i0))
 (round:∀i,inv i->ot P k x (yS (fun env' s'=>∃i',inv i'/\μ i'<μ i/\iV k env' s' (E i') (S i')) Q) (E i) (S i)):ot P k (.loop x) Q env s:=
 fun C hC hf c hc β a w hst=>by
 obtain⟨c1,rfl,h1⟩:=EG hc;obtain⟨β0,hst0⟩:=hw C β a w hC hst;intro b kk cs hro hb hr;have key:∀n i C' β a w,Ext C C'->μ i=n->inv i->St C' β (E i) (S i) a w->
  ∃e a' w',(∃C'',Ext C C''/\∃β' env' s',St C'' β' env' s' a' w'/\Q e env' s')/\ArrivesIn (Machine.fenced P C.oh) P (lone (b.atR a (.code c1:: .inLoop c1::kk)) cs w) b kk cs e a' w':=by
  intro n;induction n using Nat.strongRecOn with
  |_ n ih=>
   intro i C' β a w hx hn hi hst;have hrd:=round i hi C' (hx.k.trans hC) (hf.imp id hx.plain) c1 h1 β a w hst;rw[hx.oh]at hrd;obtain⟨e,a₁,w₁,hq,harr⟩:=hrd b (.inLoop c1::kk) cs hro hb hr;obtain⟨C'',hx',β',env',s',hst',hq⟩:=hq;have hxx:=hx.trans hx';cases e with
   |normal=>
    obtain⟨i',hi',hlt,hwk⟩:=hq;obtain⟨β2,hst2⟩:=hwk C'' β' a₁ w₁ (hxx.k.trans hC) hst';obtain⟨e₂,a₂,w₂,hq₂,harr₂⟩:=ih (μ i') (hn▸hlt) i' C'' β2 a₁ w₁ hxx rfl hi' hst2;exact⟨e₂,a₂,w₂,hq₂,.of_steps (StepsIn.trans harr (.one (fe hb hr rfl) stepR_inLoop)) harr₂⟩
   |exit id=>exact⟨_,a₁,w₁,⟨C'',hxx,β',env',s',hst',hq⟩,.pass (x:=.inLoop c1) rfl (fun _ _=>.inl (by simp)) harr⟩
   |goto l=>exact⟨_,a₁,w₁,⟨C'',hxx,β',env',s',hst',hq⟩,.pass (x:=.inLoop c1) rfl (fun _ _=>.inl (by simp)) harr⟩
   |ret=>exact⟨_,a₁,w₁,⟨C'',hxx,β',env',s',hst',hq⟩,.pass (x:=.inLoop c1) rfl (fun _ _=>.inl (by simp)) harr⟩
   |panic ch=>exact⟨_,a₁,w₁,⟨C'',hxx,β',env',s',hst',hq⟩,.pass (x:=.inLoop c1) rfl (fun _ _=>.inl (by simp)) harr⟩
   |outgrown=>exact⟨_,a₁,w₁,⟨C'',hxx,β',env',s',hst',hq⟩,.pass (x:=.inLoop c1) rfl (fun _ _=>.inl (by simp)) harr⟩
 obtain⟨e,a',w',hq,harr⟩:=key _ i0 C β0 a w (.refl C) rfl h0 hst0;exact⟨e,a',w',hq,.of_steps (.one (fe hb hr rfl) stepR_loop) harr⟩
end
theorem wh{P:Program}{ops:Array Oper}{o:Oper}{m:iO}(h:pU P ops o=some m.erase):
 m.op.erase=(kM P o).getD .dead/\m.dst=o.dst/\m.guard=o.guard.map fun(j,b)=>((ops[j]?).bind (·.dst),b):=by
 unfold pU iO.erase at h;simp only[aL,iO.mk.injEq]at h;exact⟨h.2.1.symm,h.1.symm,h.2.2.symm⟩
theorem yU{o:Oper}{y:Nat->Option Bool}(h:o.guard=none):Region.wanted o y=true:=by simp[Region.wanted,h]
theorem A_{C:Ctx}{β:iE}{env:List AV}{s:iw}{a:Act}{w:World}(hst:St C β env s a w){ops:Array Oper}{j d:Nat}{b:Bool}
 (hd:(ops[j]?).bind (·.dst)=some d) (hb:env.getD d .iG=.d (.lit (.bool b))):yielded ops a.tmps j=some b:=by
 have h1:=hst.ev (.tmp d);simp only[ev]at h1;rw[hb]at h1;have h1:=qy h1;simp only[Act.eval]at h1;unfold yielded;rw[hd];simp only[aa];have hlt:d<a.tmps.size:=by
  rcases cF d a.tmps.size with h|h
  ·exact h
  ·have:a.tmps.getD d undef=undef:=by simp[bU,Array.getElem?_eq_none h]
   rw[this]at h1;cases h1
 have h2:a.tmps[d]?=some (.bool b):=by
  rw[cH hlt];rw[bU,cH hlt]at h1;simpa using h1
 rw[h2]
theorem FI{C:Ctx}{β:iE}{env:List AV}{s:iw}{a:Act}{w:World}(hst:St C β env s a w){ops:Array Oper}{j d:Nat}
 (hd:(ops[j]?).bind (·.dst)=some d) (hb:env.getD d .iG=.mB []):yielded ops a.tmps j=none:=by
 have h1:=hst.ev (.tmp d);simp only[ev]at h1;rw[hb]at h1;simp only[AV.ok,AV.iP,Act.eval]at h1;obtain⟨vs,h1,_⟩:=h1;unfold yielded;rw[hd];simp only[aa];cases hx:a.tmps[d]? with
 |none=>rfl
 |some v=>
  have:a.tmps.getD d undef=v:=by rw[bU,hx];rfl
  rw[this]at h1;subst h1;rfl
theorem ue{P:Program}{C:Ctx}{ops:Array Oper}{o:Oper}{m:iO}(hm:pU P ops o=some m.erase){env:List AV}{s:iw}{K:List AV->iw->Prop}
 (hk:match m.guard with
  |none=>qT P C.k m.op env s fun x env s=>K (iZ m.dst env x) s
  |some (g,want)=>match g with
   |none=>K (iZ m.dst env (.mB [])) s
   |some d=>match env.getD d .iG with
    |.d (.lit (.bool b))=>Br b want (qT P C.k m.op env s fun x env s=>K (iZ m.dst env x) s) (K (iZ m.dst env (.mB [])) s)
    |.mB []=>K (iZ m.dst env (.mB [])) s
    |_=>False)
 {β:iE} {a:Act} {w:World} (hst:St C β env s a w) {Q:Exit->Act->World->Prop} {next:Act->World->Prop}
 (hn:∀β' env' s' a' w',St C β' env' s' a' w'->K env' s'->next a' w'):
 if Region.wanted o (yielded ops a.tmps)then o.wpIn C.oh 0 P a w next Q else(∀f,o.about P w a.eval=some f->C.oh.fn f)/\next (a.put o.dst undef) w:=by
 obtain⟨h1,h2,h3⟩:=wh hm;have run:qT P C.k m.op env s (fun x env s=>K (iZ m.dst env x) s)->o.wpIn C.oh 0 P a w next Q:=fun h=>by
  rw[h2]at h;have h1':kM P o=some m.op.erase:=by
   cases hq:kM P o with
   |some x=>rw[hq]at h1;rw[h1];rfl
   |none=>
    rw[hq]at h1;simp only[Option.getD_none]at h1;have:m.op=.dead:=by cases hmo:m.op<;>rw[hmo]at h1<;>simp[sH.erase]at h1⊢
    rw[this]at h;exact h.elim
  have hnd:∀c,o.op≠ .defer c:=fun c hc=>by unfold kM at h1';rw[hc]at h1';cases h1'
  have:=Mc h1' h hnd Q β a w hst;exact Oper.wpIn_mono (fun a' w' ⟨β',env',s',h4,h5⟩=>hn β' env' s' a' w' h4 h5) this
 have skip:K (iZ m.dst env (.mB [])) s->(∀f,o.about P w a.eval=some f->C.oh.fn f)/\next (a.put o.dst undef) w:=fun h=>by
  rw[h2]at h;refine⟨fun _ _=>trivial,?_⟩;exact hn _ _ _ _ _ (hst.put (x:=.mB []) (v:=undef) (by simp[AV.ok,AV.iP,undef]) o.dst) h
 cases hg:o.guard with
 |none=>
  rw[hg]at h3;simp only[eH]at h3;rw[h3]at hk;rw[ah (yU hg)];exact run hk
 |some p=>
  obtain⟨j,want⟩:=p;rw[hg]at h3;simp only[aM]at h3;rw[h3]at hk;have hw:Region.wanted o (yielded ops a.tmps)=(yielded ops a.tmps j==some want):=by simp[Region.wanted,hg]
  rw[hw];cases hd:(ops[j]?).bind (·.dst)with
  |none=>
   rw[hd]at hk;have:yielded ops a.tmps j=none:=by simp[yielded,hd]
   rw[this];exact skip hk
  |some d=>
   rw[hd]at hk;simp only at hk;split at hk
   ·rename_i b hb;rw[A_ hst hd hb];unfold Br at hk;by_cases hbw:b=want
    ·rw[ah hbw]at hk;subst hbw;rw[ah (by simp)];exact run hk
    ·rw[aj hbw]at hk;rw[aj (by simpa using hbw)];exact skip hk
   ·rename_i hb;rw[FI hst hd hb];exact skip hk
   ·exact hk.elim
theorem DX{P:Program}{C:Ctx}{ops:Array Oper}{Q:Post}:∀(n i:Nat)(ms:List iO)(env:List AV)(s:iw),i+n=ops.size->
 (ops.toList.drop i).mapM (pU P ops)=some (ms.map iO.erase)->vA P C.k ms env s (fun env s=>Q .normal env s)->
 ∀(β:iE)(a:Act)(w:World),St C β env s a w->wpOpsIn C.oh 0 P ops (fun e a' w'=>∃C',Ext C C'/\∃β' env' s',St C' β' env' s' a' w'/\Q e env' s') (List.range' i n) a w
 |0,i,ms,env,s=>fun hi hm hk β a w hst=>by
  have:ops.toList.drop i=[]:=by apply en;simp;omega
  rw[this]at hm;simp at hm;subst hm;exact⟨C,.refl C,β,env,s,hst,hk⟩
 |n+1,i,ms,env,s=>fun hi hm hk β a w hst=>by
  have hlt:i<ops.toList.length:=by simp;omega
  rw[aE hlt]at hm;simp only[cq,cm,aq]at hm;obtain⟨m0,h1,ms0,h2,h3⟩:=hm;cases ms with
  |nil=>cases h3
  |cons m ms'=>
  simp only[aO,dL,aL,bV]at h3;obtain⟨rfl,rfl⟩:=h3;rw[dV];simp only[wpOpsIn];have ho:ops[i]?=some ops.toList[i]:=by simp at hlt;simp[hlt]
  rw[ho];simp only;refine ue (K:=fun env s=>vA P C.k ms' env s fun env s=>Q .normal env s) h1 ?_ hst fun β' env' s' a' w' h4 h5=>DX n (i+1) ms' env' s' h_ h2 h5 β' a' w' h4
  simpa only[vA]using hk
theorem XL{P:Program}{k:Nat}{Q:Post}{env:List AV}{s:iw}{ms:List iO}(h:vA P k ms env s fun env s=>Q .normal env s):ot P k (.ie ms) Q env s:=
 fun C hC _ c hc β a w hst=>by
 obtain⟨id,ops,rfl,hm⟩:=Dx hc;subst hC;refine wpIn_region ?_;have:=DX (Q:=Q) (ops:=ops) ops.size 0 ms env s h_ (by simpa using hm) h β a w hst;rwa [<-dU]at this
inductive sW where
 |tmp (t:Nat)
 |cell (a n:Nat) (ag:Bool)
def xB(P:Program):ResultVar->Option sW
 |.tmp t=>some (.tmp t)
 |.cell a t=>(kO P t).bind fun n=>(F0 P t).map fun ag=>.cell a (if ag then n else 1) ag
def vT(env:List AV)(s:iw):List sW->(List AV->Prop)->Prop
 |[],K=>K []
 |.tmp t::r,K=>vT env s r fun xs=>K (env.getD t .iG::xs)
 |.cell a n ag::r,K=>rH n ag (env.getD a .iG) s fun x=>vT env s r fun xs=>K (x::xs)
def tI:List AV->AV
 |[x]=>x
 |xs=>.mB xs
def Gq(rs:List sW)(R:AV->iw->Prop):Post
 |.normal,env,s=>vT env s rs fun xs=>R (tI xs) s
 |.ret,env,s=>vT env s rs fun xs=>R (tI xs) s
 |_,_,_=>False
def OQ(tmps:Array Value):ResultVar->Sem Value
 |.tmp t=>pure (tmps.getD t undef)
 |.cell b t=>do loadVar t (<-asAddr (tmps.getD b undef))
theorem Ag(fn:Func)(tmps:Array Value):results fn tmps=(do let vs <-fn.results.mapM (OQ tmps);pure (if h:vs.size=1 then vs[0]else .tuple vs)):=by
 unfold results;have:(fun x=>match x with|ResultVar.tmp t=>(pure (tmps.getD t undef):Sem Value)|ResultVar.cell a t=>do loadVar t (<-asAddr (tmps.getD a undef)))=OQ tmps:=by
  funext x;cases x<;>rfl
 rw[<-this];rfl
theorem CC{P:Program}{C:Ctx}{β:iE}{env:List AV}{s:iw}{a:Act}{w:World}(hst:St C β env s a w):∀(rv:List ResultVar)(rs:List sW)(K:List AV->Prop),
 rv.mapM (xB P)=some rs->vT env s rs K->
 ∃vs xs,(rv.mapM (OQ a.tmps)).run P w=.ok vs w/\
  AV.iP β (C.iz β s) w xs vs/\K xs
 |[],rs,K=>fun h1 h2=>by
  simp at h1;subst h1;exact⟨[],[],by simp,by simp[AV.iP],h2⟩
 |.tmp t::rv,rs,K=>fun h1 h2=>by
  simp only[cq,cm,aq,xB]at h1;obtain⟨_,h3,rs',h4,h5⟩:=h1;cases h3;cases h5;simp only[vT]at h2;obtain⟨vs,xs,h6,h7,h8⟩:=CC hst rv rs' _ h4 h2;refine⟨a.tmps.getD t undef::vs,_,?_,?_,h8⟩
  ·rw[cq];simp only[OQ,aY,bt,aG,h6]
  ·simp only[AV.iP];exact⟨_,_,rfl,hst.ev (.tmp t),h7⟩
 |.cell b t::rv,rs,K=>fun h1 h2=>by
  simp only[cq,cm,aq,ay,xB]at h1;obtain⟨_,⟨n,hn,ag,hg,h3⟩,rs',h4,h5⟩:=h1;subst h3;cases h5;simp only[vT]at h2;obtain⟨v,x,h6,h7,h8⟩:=EB (P:=P) hn hg hst (hst.ev (.tmp b)) h2;obtain⟨vs,xs,h9,h10,h11⟩:=CC hst rv rs' _ h4 h8;refine⟨v::vs,x::xs,?_,?_,h11⟩
  ·rw[cq];have hload:(asAddr (a.tmps.getD b undef) >>=fun ad=>loadVar t ad:Sem Value).run P w=.ok v w:=by
    simp only[Instr.loadAt,Act.eval]at h6;simp only[aY]at h6⊢;cases hv:a.tmps.getD b undef with
    |pointer ad=>
     cases ad with
     |some ad=>rw[hv]at h6;simpa[Instr.sureAddr,asAddr]using h6
     |none=>rw[hv]at h6;simp[Instr.sureAddr]at h6
    |_=>rw[hv]at h6;simp[Instr.sureAddr]at h6
   simp only[aY]at hload;simp only[OQ,aY,hload,aG,h9,bt]
  ·simp only[AV.iP];exact⟨_,_,rfl,h7,h10⟩
theorem xz{P:Program}{fn:Func}{tmps:Array Value}{R:Ending->World->Prop}(Z:World->Prop){B:Nat}
 (hZ:∀w w' D,Z w->w.grownBy w' (some D)->B<=D->(∃o:Obj,w.heap[D]?=some o/\Bb o)->Z w')
 (hfin:∀w,Z w->∃v,(results fn tmps).run P w=.ok v w/\R (.returned v) w):
 ∀(Ds:List Nat)(w:World),Ds.Nodup->(∀D∈Ds,B<=D/\w.heap[D]?=some (.deferred (some [])))->Z w->LeavesInM Fence.wide 0 P fn tmps R (Ds.map yA) .returning w
 |[],w,_,_,hz=>by simp only[cT,LeavesInM,LeavesIn];exact hfin w hz
 |D::Ds,w,hn,hd,hz=>by
  simp only[aO,LeavesInM];have h1:=hd D aS;rw[cz]at hn;refine⟨by simp,.inl ⟨D,_,rfl,run_takeDeferred h1.2,xz Z hZ hfin Ds _ hn.2 (fun D' hD'=>?_) ?_⟩⟩
  ·have h2:=hd D' (aP _ hD');exact⟨h2.1,(dh fun e=>hn.1 (by rw[<-e];exact hD')).trans h2.2⟩
  ·exact hZ _ _ D hz (eT w D _) h1.1 ⟨_,h1.2,rfl,rfl⟩
theorem KP{P:Program}{f:Nat}{fn:Func}{c:Code}{mc:ir}{rs:List sW}{args:List AV}{s:iw}{k n:Nat}{R:AV->iw->Prop}
 (hf:P.funcs[f]?=some fn) (hb:fn.body=some c) (hm:mT P c=some mc.erase) (hn:fn.ntmps=n) (hr:fn.results.toList.mapM (xB P)=some rs)
 (h:ot P k mc (Gq rs R) (args++List.replicate (n-args.length) .iG) s):iH P f args s k R:=by
 intro C vs hCs hCk hinv hargs;have hlen:=AV.iQ hargs;let C0:Ctx:={C with ro:=none,dom:=C.w.heap.size,nm:=false};refine callsIn_wide.1 (callsIn_of_wp_marks (F:=Fence.wide) (n:=0) hf hb trivial ?_);have hst:St C0 C.β (args++List.replicate (n-args.length) .iG) s {tmps:=vs++Array.replicate (fn.ntmps-vs.size) undef,defers:=[]} C.w:=by
  refine⟨.nil,hCs▸hinv.ro none C.w.heap.size,?_,fun i x hx=>?_⟩
  ·simp at hlen;simp[hn,hlen]
  ·rw[hCs]at hargs;rw[eC]at hx;split at hx
   ·rename_i hi;have hi2:i<vs.size:=by simp at hlen;omega
    have h1:(vs++Array.replicate (fn.ntmps-vs.size) undef).getD i undef=vs[i]:=by simp[bU,fE,hi2]
    rw[h1];exact(AV.jI.1 hargs).2 i x _ hx (by simp[hi2])
   ·have:x=.iG:=by
     rw[cP]at hx;split at hx
     ·cases hx;rfl
     ·cases hx
    subst this;simp[AV.ok]
 refine dD (h C0 hCk (.inr ⟨rfl,rfl,aA _⟩) c hm C.β _ _ hst) fun e a' w' he=>?_
 obtain⟨C',hx,β',env',s',hst',hq⟩:=he;have fin:vT env' s' rs (fun xs=>R (tI xs) s')->LeavesInM Fence.wide 0 P fn a'.tmps (fun e w'=>∃v x β' s',e=.returned v/\Inv C β' s' w'/\AV.ok β' (C.iz β' s') w' x v/\R x s') a'.defers .returning w':=fun hq=>by
  obtain⟨_,Ds,hDs,hnd,hmk⟩:=hst'.defers;rw[hDs];refine xz (B:=C.w.heap.size) (fun w=>Inv C0 β' s' w/\∀i x,env'[i]?=some x->AV.ok β' (C0.iz β' s') w x (a'.tmps.getD i undef)) (fun w1 w2 D hz hg hB ho=>?_) (fun w1 hz=>?_) Ds w' hnd (fun D hD=>?_) ⟨hx.inv _ _ _ hst'.inv,fun i x hi=>?_⟩
  ·have hr:∀r,some D=some r->∃o:Obj,w1.heap[r]?=some o/\Bb o:=fun r e=>by cases e;exact ho
   exact⟨hz.1.pJ hg fun r e=>⟨by cases e;exact hB,hr r e⟩,fun i x hi=>AV.jY (fun b o v hc hn=>⟨eE hc hg (Ck hr),hn⟩) (fun _=>.refl _) _ _ (hz.2 i x hi)⟩
  ·have hst1:St C0 β' env' s' {a' with defers:=[]} w1:=⟨.nil,hz.1,hst'.len,hz.2⟩;obtain⟨us,xs,h1,h2,h3⟩:=CC hst1 fn.results.toList rs _ hr hq;refine⟨if h:us.toArray.size=1 then us.toArray[0]else .tuple us.toArray,?_,_,tI xs,β',s',rfl,hz.1.YG,?_,h3⟩
   ·rw[Ag,dW];simp only[aY,Sem.run_map];rw[h1];simp only[aG,bt]
   ·have hl:=AV.iQ h2;have hfb:C0.iz β' s'=C.iz β' s':=rfl;rw[hfb]at h2
    match xs,us,h2 with
    |[x],[u],h2=>
     simp only[AV.iP]at h2;obtain⟨_,_,h4,h5,h6⟩:=h2;cases h4;simpa[tI]using h5
    |[],[],h2=>simp only[tI,AV.ok];exact⟨#[],by simp,by simp[AV.iP]⟩
    |x::y::xs,u::v::us,h2=>
     simp only[tI,AV.ok];exact⟨(u::v::us).toArray,by simp,by simpa using h2⟩
  ·obtain⟨h1,h2,h3,h4⟩:=hmk D hD;exact⟨by rw[hx.dom]at h1;exact h1,(hst'.inv.qN D h2 h4).trans h3⟩
  ·have:=hst'.env i x hi;rwa [hx.iz]at this
 cases e with
 |normal=>exact fin hq
 |ret=>exact fin hq
 |exit id=>exact hq.elim
 |goto l=>exact hq.elim
 |panic ch=>exact hq.elim
 |outgrown=>exact hq.elim
structure kS(P:Program)(f:Nat)(mc:ir)(n:Nat)(rs:List sW):Prop where
 fn:∃fn,P.funcs[f]?=some fn/\fn.body.bind (mT P)=some mc.erase/\fn.ntmps=n/\fn.results.toList.mapM (xB P)=some rs
theorem kS.calls{P:Program}{f:Nat}{mc:ir}{n:Nat}{rs:List sW}(h:kS P f mc n rs){args:List AV}{s:iw}{k:Nat}{R:AV->iw->Prop}
 (hm:ot P k mc (Gq rs R) (args++List.replicate (n-args.length) .iG) s):iH P f args s k R:=by
 obtain⟨fn,h1,h2,h3,h4⟩:=h.fn;rw[aq]at h2;obtain⟨c,h5,h6⟩:=h2;exact KP h1 h5 h6 h3 h4 hm
def AV.le(x y:AV):Prop:=∀β O w v,AV.ok β O w x v->AV.ok β O w y v
theorem AV.le_refl(x:AV):AV.le x x:=fun _ _ _ _ h=>h
theorem AV.Q_(x:AV):AV.le x .iG:=fun _ _ _ _ _=>by simp[AV.ok]
theorem AV.UY{e id:Nat}{xs:List D}:AV.le (.own e id xs) (.d (.sl e none xs)):=fun _ _ _ _ h=>by simp only[AV.ok]at h⊢;exact h.1
def iY:List AV->List AV->Prop
 |[],[]=>True
 |x::xs,y::ys=>AV.le x y/\iY xs ys
 |_,_=>False
theorem iY.get:∀{xs ys:List AV},iY xs ys->xs.length=ys.length/\∀(i:Nat)(y:AV),ys[i]?=some y->∃x,xs[i]?=some x/\AV.le x y
 |[],[],_=>by simp
 |[],_::_,h=>h.elim
 |_::_,[],h=>h.elim
 |x::xs,y::ys,h=>by
  obtain⟨h1,h2⟩:=h;obtain⟨h3,h4⟩:=iY.get h2;refine⟨by simp[h3],fun i z hz=>?_⟩;cases i with
  |zero=>simp at hz;subst hz;exact⟨x,rfl,h1⟩
  |succ i=>simpa using h4 i z (by simpa using hz)
section
variable{k:Nat}{env env' env'':List AV}{s s' s'':iw}
theorem iV.refl:iV k env s env s:=fun _ β _ _ _ h=>⟨β,h⟩
theorem iV.trans(h:iV k env s env' s')(h2:iV k env' s' env'' s''):iV k env s env'' s'':=fun C β a w hC hst=>let⟨β',h3⟩:=h C β a w hC hst;h2 C β' a w hC h3
theorem iV.kill(id:Nat)(hid:k<=id):iV k env s (AV.jk (iM id) env) (jD id s):=fun _ _ _ _ hC hst=>⟨_,hst.kill id (hC▸hid)⟩
theorem iV.Uc(hs:∀id,sat s id=sat s' id):iV k env s env s':=fun C β a w hC hst=>by
 have h1:∀b o,own β s' b o<->own β s b o:=by intro b o;unfold own;simp only[hs]
 have h2:∀i b,ig β s' i b<->ig β s i b:=by intro i b;unfold ig;simp only[hs]
 have m:mP β s w β s' w:=⟨aA _,rfl,fun _ _ _ h _=>h,fun _ _ _=>rfl,fun b o h=>.inl ((h1 b o).1 h),fun q b h=>.inl ⟨q,(h2 q b).1 h⟩,fun _=>.refl _⟩;exact⟨β,hst.move m (fun q=>by rw[<-hs];exact(hst.inv.obs q).vR m rfl (fun _ _=>rfl) rfl) (fun p q b hp hq=>hst.inv.inj p q b ((h2 p b).1 hp) ((h2 q b).1 hq))⟩
end
theorem wrap_i64{n:Int}(h1: -9223372036854775808<=n)(h2:n<9223372036854775808):IntKind.i64.wrap n=n:=by
 unfold IntKind.wrap IntKind.bits IntKind.signed;simp only[bP];split<;>rename_i h<;>simp at h<;>omega
theorem Qk{k:IntKind}{n:Int}:M0 (.int k n)=.d (.lit (.int k n)):=rfl
theorem M3{b:Bool}:M0 (.bool b)=.d (.lit (.bool b)):=rfl
theorem HY{b:ByteArray}:M0 (.string b)=.d (.lit (.string b)):=rfl
theorem Ql:M0 (.slice none 0 0)=.d (.sl 0 (some true) []):=rfl
theorem M1:M0 (.agg #[])=.d (.agg []):=rfl
mutual
def AV.toD:AV->Option D
 |.d x=>some x
 |.own e _ xs=>some (.sl e none xs)
 |.agg cs=>(AV.VN cs).map .agg
 |.iG=>none
 |.ptr _ _=>none
 |.pV _ _ _ _=>none
 |.pv _=>none
 |.mB _=>none
 |.fn _ _ _=>none
 |.mX _ _ _=>none
 |.lN _ _ _=>none
 |.Cq _ _=>none
 |.dp _=>none
 |.mp _=>none
def AV.VN:List AV->Option (List D)
 |[]=>some []
 |x::xs=>(AV.toD x).bind fun y=>(AV.VN xs).map (y::·)
end
def AV.YF:AV->Option (List D)
 |.mB cs=>AV.Jg cs
 |_=>none
where
 AV.Jg:List AV->Option (List D)
 |[]=>some []
 |x::xs=>(AV.toD x).bind fun y=>(AV.Jg xs).map (y::·)
theorem iH.mono{P:Program}{f:Nat}{args:List AV}{s:iw}{k:Nat}{R R':AV->iw->Prop}(h:iH P f args s k R)
 (hR:∀x s,R x s->∃y,AV.le x y/\R' y s):iH P f args s k R':=fun C vs h1 h2 h3 h4=>
 (h C vs h1 h2 h3 h4).mono fun _ _ ⟨v,x,β',s',he,hi,hx,hr⟩=>let⟨y,hle,hr'⟩:=hR x s' hr;⟨v,y,β',s',he,hi,hle _ _ _ _ hx,hr'⟩
def jW(P:Program)(f:Nat)(args:List D)(r:D):Prop:=iH P f (args.map .d) [] 0 fun x _=>x=.d r
def qV(P:Program)(f:Nat)(args:List D)(rs:List D):Prop:=iH P f (args.map .d) [] 0 fun x _=>x=.mB (rs.map .d)
theorem iY.iP{β:iE}{O:Own}{w:World}:∀{xs ys:List AV}{vs:List Value},iY xs ys->AV.iP β O w xs vs->AV.iP β O w ys vs
 |[],[],_,_,h=>h
 |_::_,_::_,_,hl,h=>by
  simp only[AV.iP]at h⊢;obtain⟨v,r,h1,h2,h3⟩:=h;exact⟨v,r,h1,hl.1 _ _ _ _ h2,iY.iP hl.2 h3⟩
 |[],_::_,_,hl,_=>hl.elim
 |_::_,[],_,hl,_=>hl.elim
theorem iH.args{P:Program}{f:Nat}{args dz:List AV}{s:iw}{k:Nat}{R:AV->iw->Prop}(h:iH P f dz s k R)(hl:iY args dz):iH P f args s k R:=
 fun C vs h1 h2 h3 h4=>h C vs h1 h2 h3 (hl.iP h4)
theorem Gd{P:Program}{k0 f:Nat}{args env:List AV}{s:iw}{K:AV->List AV->iw->Prop}{dz:List D}{r:D}(ha:iY (args.map fun x=>x.lq (om [])) (dz.map .d))
 (hc:jW P f dz r) (hk:K (.d r) env s):JL P k0 f args env s K:=
 ⟨[],[],fun x _=>x=.d r,rfl,by simp,by simp,by simp,iH.args hc ha,by rintro x s' rfl;exact hk⟩
theorem En{P:Program}{k0 f:Nat}{args env:List AV}{s:iw}{K:AV->List AV->iw->Prop}{dz:List D}{rs:List D}(ha:iY (args.map fun x=>x.lq (om [])) (dz.map .d))
 (hc:qV P f dz rs) (hk:K (.mB (rs.map .d)) env s):JL P k0 f args env s K:=by
 refine⟨[],[],fun x _=>x=.mB (rs.map .d),rfl,by simp,by simp,by simp,iH.args hc ha,?_⟩;rintro x s' rfl;have h2:∀qs:List D,AV.jk (lX ([]++[])) (qs.map .d)=qs.map .d:=fun qs=>by
  induction qs with
  |nil=>rfl
  |cons d ds ih=>simp only[aO,AV.jk,AV.lq,ih]
 simp only[AV.lq,h2];exact hk
def rU(env:List AV):List Nat->List AV
 |[]=>env
 |w::ws=>rU (env.set w .iG) ws
def pK(env:List AV):List (Nat×AV)->List AV
 |[]=>env
 |(w,x)::r=>pK (env.set w x) r
theorem Rj{P:Program}{k:Nat}{Q:Post}{env:List AV}{s:iw}{x:ir}{ι:Type}(ws:List Nat)(vs:ι->List (Nat×AV))(S:ι->iw)(inv:ι->Prop)(μ:ι->Nat)(i0:ι)(h0:inv i0)
 (hw:iV k env s (pK (rU env ws) (vs i0)) (S i0))
 (round:∀i,inv i->ot P k x (yS (fun env' s'=>∃i',inv i'/\μ i'<μ i/\iV k env' s' (pK (rU env ws) (vs i')) (S i')) Q) (pK (rU env ws) (vs i)) (S i)):
 ot P k (.loop x) Q env s:=U7 (fun i=>pK (rU env ws) (vs i)) S inv μ i0 h0 hw round
theorem GM(x:AV):AV.le x x<->True:=⟨fun _=>trivial,fun _=>AV.le_refl x⟩
theorem GL(x:AV):AV.le x .iG<->True:=⟨fun _=>trivial,fun _=>AV.Q_ x⟩
theorem IJ{e id:Nat}{xs:List D}:AV.le (.own e id xs) (.d (.sl e none xs))<->True:=⟨fun _=>trivial,fun _=>AV.UY⟩
def ints(l:gB):D:=.sl 1 none (l.map iD)
theorem O6(l:gB):qR (.d (ints l))=some (1,l.map iD):=rfl
theorem Ik(l:gB):AV.cells (.d (ints l))=some [.d (ints l)]:=rfl
theorem FY(l:gB):AV.CN (.d (ints l))=none:=rfl
theorem Gi(l:gB):iy (ints l)=[ints l]:=rfl
theorem VJ{e:Nat}{nl:Option Bool}{xs:List D}:qR (.d (.sl e nl xs))=some (e,xs):=rfl
theorem R8{e id:Nat}{xs:List D}:qR (.own e id xs)=some (e,xs):=rfl
theorem Ox{e:Nat}{b:Bool}{xs:List D}:zh (.d (.sl e (some b) xs))=some b:=rfl
theorem Ow{e:Nat}{xs:List D}:zh (.d (.sl e none xs))=none:=rfl
theorem Ry{e id:Nat}{xs:List D}:zh (.own e id xs)=none:=rfl
theorem Rw{e id off n:Nat}:zh (.pV e id off n)=some false:=rfl
theorem K7{cs:List D}:AV.cells (.d (.agg cs))=some (cs.map .d):=rfl
theorem Ii{cs:List AV}:AV.cells (.agg cs)=some cs:=rfl
theorem K_{u:Value}:AV.cells (.d (.lit u))=some [.d (.lit u)]:=rfl
theorem K8:AV.cells (.d .any)=some [.d .any]:=rfl
theorem NA{e:Nat}{nl:Option Bool}{xs:List D}:AV.cells (.d (.sl e nl xs))=some [.d (.sl e nl xs)]:=rfl
theorem Lc{e id:Nat}{xs:List D}:AV.cells (.own e id xs)=some [.own e id xs]:=rfl
theorem Ld{id off:Nat}:AV.cells (.ptr id off)=some [.ptr id off]:=rfl
theorem La{e id off n:Nat}:AV.cells (.pV e id off n)=some [.pV e id off n]:=rfl
theorem Nz{cs:List D}:AV.cells (.pv cs)=some [.pv cs]:=rfl
theorem Nx{f:Nat}{a b:List AV}:AV.cells (.fn f a b)=some [.fn f a b]:=rfl
theorem HS{cs:List D}:AV.CN (.d (.agg cs))=some (cs.map .d):=rfl
theorem FX{cs:List AV}:AV.CN (.agg cs)=some cs:=rfl
theorem Il{cs:List D}:iy (.agg cs)=cs:=rfl
theorem Im{u:Value}:iy (.lit u)=[.lit u]:=rfl
theorem Lg{e:Nat}{nl:Option Bool}{xs:List D}:iy (.sl e nl xs)=[.sl e nl xs]:=rfl
theorem MM{k:IntKind}{n:Int}:kC (.d (.lit (.int k n)))=some n:=rfl
attribute [go_sem] ev Qk M3 HY Ql M1 iZ List.getD_cons_zero List.getD_cons_succ List.set_cons_zero List.set_cons_succ List.cons_append List.nil_append List.length_cons List.length_nil List.replicate List.map_cons List.map_nil sat sset jD iM AV.jk AV.lq Ob.kill Ob.kI oP AV.fin AV.lW CT yS CS Gq vT tI iY AV.toD AV.VN AV.YF AV.YF.AV.Jg rU pK GM GL IJ VJ R8 Ox Ow Ry Rw K7 Ii K_ K8 NA Lc Ld La Nz Nx HS FX Il Im Lg MM O6 Ik FY Gi
inductive Out where
 |ok (x:AV) (env:List AV) (s:iw)
 |need (p:Prop) (o:Out)
 |br (b:Bool) (o1 o2:Out)
 |call (f:Nat) (args env:List AV) (s:iw)
 |P8 (p:Prop) (o1 o2:Out)
 |bad
def runK(P:Program)(k0:Nat)(K:AV->List AV->iw->Prop):Out->Prop
 |.ok x env s=>K x env s
 |.need p o=>p/\runK P k0 K o
 |.br b o1 o2=>if b=true then runK P k0 K o1 else runK P k0 K o2
 |.call f args env s=>BV P k0 f args env s K
 |.P8 p o1 o2=>(p->runK P k0 K o1)/\runK P k0 K o2
 |.bad=>False
def zg(id t:Nat)(cs env:List AV)(s:iw):Ob->Out
 |.dead=>.ok (.ptr id 0) env (sset s id (.obj t cs))
 |.obj _ _=>.ok (.ptr id 0) (AV.jk (iM id) env) (sset (jD id s) id (.obj t (AV.jk (iM id) cs)))
 |.tok _ _ _=>.ok (.ptr id 0) (AV.jk (iM id) env) (sset (jD id s) id (.obj t (AV.jk (iM id) cs)))
 |.kU _ _ _ _=>.ok (.ptr id 0) (AV.jk (iM id) env) (sset (jD id s) id (.obj t (AV.jk (iM id) cs)))
 |.oR _ _ _ _=>.ok (.ptr id 0) (AV.jk (iM id) env) (sset (jD id s) id (.obj t (AV.jk (iM id) cs)))
 |.tK _ _ _=>.ok (.ptr id 0) (AV.jk (iM id) env) (sset (jD id s) id (.obj t (AV.jk (iM id) cs)))
 |.mp _ _ _=>.ok (.ptr id 0) (AV.jk (iM id) env) (sset (jD id s) id (.obj t (AV.jk (iM id) cs)))
def xC(id t e:Nat)(xs:List D)(env:List AV)(s:iw):Ob->Out
 |.dead=>.ok (.own e id xs) env (sset s id (.tok t e xs.length))
 |.obj _ _=>.ok (.own e id xs) (AV.jk (iM id) env) (sset (jD id s) id (.tok t e xs.length))
 |.tok _ _ _=>.ok (.own e id xs) (AV.jk (iM id) env) (sset (jD id s) id (.tok t e xs.length))
 |.kU _ _ _ _=>.ok (.own e id xs) (AV.jk (iM id) env) (sset (jD id s) id (.tok t e xs.length))
 |.oR _ _ _ _=>.ok (.own e id xs) (AV.jk (iM id) env) (sset (jD id s) id (.tok t e xs.length))
 |.tK _ _ _=>.ok (.own e id xs) (AV.jk (iM id) env) (sset (jD id s) id (.tok t e xs.length))
 |.mp _ _ _=>.ok (.own e id xs) (AV.jk (iM id) env) (sset (jD id s) id (.tok t e xs.length))
def AR(id t e:Nat)(xs:List D)(env:List AV)(s:iw):Ob->Out
 |.dead=>.ok (.mX e id xs.length) env (sset s id (.kU t e xs.length (xs.flatMap iy)))
 |.obj _ _=>.ok (.mX e id xs.length) (AV.jk (iM id) env) (sset (jD id s) id (.kU t e xs.length (xs.flatMap iy)))
 |.tok _ _ _=>.ok (.mX e id xs.length) (AV.jk (iM id) env) (sset (jD id s) id (.kU t e xs.length (xs.flatMap iy)))
 |.kU _ _ _ _=>.ok (.mX e id xs.length) (AV.jk (iM id) env) (sset (jD id s) id (.kU t e xs.length (xs.flatMap iy)))
 |.oR _ _ _ _=>.ok (.mX e id xs.length) (AV.jk (iM id) env) (sset (jD id s) id (.kU t e xs.length (xs.flatMap iy)))
 |.tK _ _ _=>.ok (.mX e id xs.length) (AV.jk (iM id) env) (sset (jD id s) id (.kU t e xs.length (xs.flatMap iy)))
 |.mp _ _ _=>.ok (.mX e id xs.length) (AV.jk (iM id) env) (sset (jD id s) id (.kU t e xs.length (xs.flatMap iy)))
def Fg(id t e n:Nat)(cs env:List AV)(s:iw):Ob->Out
 |.dead=>.ok (.pV e id 0 n) env (sset s id (.obj t cs))
 |.obj _ _=>.ok (.pV e id 0 n) (AV.jk (iM id) env) (sset (jD id s) id (.obj t cs))
 |.tok _ _ _=>.ok (.pV e id 0 n) (AV.jk (iM id) env) (sset (jD id s) id (.obj t cs))
 |.kU _ _ _ _=>.ok (.pV e id 0 n) (AV.jk (iM id) env) (sset (jD id s) id (.obj t cs))
 |.oR _ _ _ _=>.ok (.pV e id 0 n) (AV.jk (iM id) env) (sset (jD id s) id (.obj t cs))
 |.tK _ _ _=>.ok (.pV e id 0 n) (AV.jk (iM id) env) (sset (jD id s) id (.obj t cs))
 |.mp _ _ _=>.ok (.pV e id 0 n) (AV.jk (iM id) env) (sset (jD id s) id (.obj t cs))
def Ku(n off:Nat)(cs:List AV):Bool->AV
 |true=>AV.mk ((cs.drop off).take n)
 |false=>cs.getD off .iG
def VH(n:Nat)(cs:List D):Bool->D
 |true=>.agg (cs.take n)
 |false=>cs.headD .any
def IM(n:Nat)(ag:Bool)(off:Nat)(env:List AV)(s:iw):Ob->Out
 |.obj _ cs=>.need (off+n<=cs.length) (.ok (Ku n off cs ag) env s)
 |_=>.bad
def VI(n off:Nat)(cs:List D):Bool->D
 |true=>.agg ((cs.drop off).take n)
 |false=>cs.getD off .any
def IP(n:Nat)(ag:Bool)(k off:Nat)(env:List AV)(s:iw):Ob->Out
 |.kU _ _ m cs=>.need (m=k/\off+n<=cs.length) (.ok (.d (VI n off cs ag)) env s)
 |.tK _ m cs=>.need (m=k/\off+n<=cs.length/\ag=false/\n=1/\Dn (cs.getD off .iG)=false) (.ok (cs.getD off .iG) env s)
 |_=>.bad
def EA(n:Nat)(ag:Bool)(env:List AV)(s:iw):AV->Out
 |.ptr id off=>IM n ag off env s (sat s id)
 |.lN id k off=>IP n ag k off env s (sat s id)
 |.pv cs=>.need (n<=cs.length) (.ok (.d (VH n cs ag)) env s)
 |_=>.bad
def FF(n off id:Nat)(env:List AV)(s:iw):Ob->Option (List AV)->Out
 |.obj t cs,some xs=>.need (xs.length=n/\off+n<=cs.length) (.ok .iG env (sset s id (.obj t (cs.take off++xs++cs.drop (off+n)))))
 |_,_=>.bad
def CF(n k off id e m:Nat)(cs:List AV)(env:List AV)(s:iw):Option (List AV)->Out
 |some xs=>.need (m=k/\xs.length=n/\0<n/\off+n<=cs.length/\xX xs=true) (.ok .iG env (sset s id (.tK e m (cs.take off++xs++cs.drop (off+n)))))
 |none=>.bad
def CE(n k off id:Nat)(env:List AV)(s:iw)(X:Option (List AV)):Ob->Option D->Out
 |.kU t e m cs,some d=>.need (m=k/\(iy d).length=n/\off+n<=cs.length) (.ok .iG env (sset s id (.kU t e m (cs.take off++iy d++cs.drop (off+n)))))
 |.tK e m cs,_=>CF n k off id e m cs env s X
 |_,_=>.bad
def DR(n:Nat)(env:List AV)(s:iw)(x:AV):AV->Out
 |.ptr id off=>FF n off id env s (sat s id) x.cells
 |.lN id k off=>CE n k off id env s x.cells (sat s id) x.fin
 |_=>.bad
def Qf(op:BinOp)(env:List AV)(s:iw):AV->AV->Out
 |.d (.lit (.int k a)),.d (.lit (.int k' b))=>.need (Y1 op k k')<|match op with
  |.add=>.ok (.d (.lit (.int k (k.wrap (a+b))))) env s
  |.sub=>.ok (.d (.lit (.int k (k.wrap (a-b))))) env s
  |.mul=>.ok (.d (.lit (.int k (k.wrap (a*b))))) env s
  |.quo=>.need (b≠0) (.ok (.d (.lit (.int k (k.wrap (a.tdiv b))))) env s)
  |.rem=>.need (b≠0) (.ok (.d (.lit (.int k (a.tmod b)))) env s)
  |.eql=>.ok (.d (bD (a==b))) env s
  |.neq=>.ok (.d (bD (a != b))) env s
  |.lss=>.ok (.d (bD (decide (a<b)))) env s
  |.leq=>.ok (.d (bD (decide (a<=b)))) env s
  |.gtr=>.ok (.d (bD (decide (b<a)))) env s
  |.geq=>.ok (.d (bD (decide (b<=a)))) env s
  |.and=>.ok (.d (.lit (.int k (D8 k a b)))) env s
  |.or=>.ok (.d (.lit (.int k (Y3 k a b)))) env s
  |.xor=>.ok (.d (.lit (.int k (Sv k a b)))) env s
  |.andNot=>.ok (.d (.lit (.int k (Jw k a b)))) env s
  |.shl=>.need (0<=b) (.ok (.d (.lit (.int k (R5 k a b)))) env s)
  |.shr=>.need (0<=b) (.ok (.d (.lit (.int k (Hi k a b)))) env s)
 |.d (.lit (.string a)),.d (.lit (.string b))=>match op with
  |.add=>.need (a.size+b.size<2^63) (.ok (.d (.lit (.string (a++b)))) env s)
  |.eql=>.ok (.d (bD (a.toList==b.toList))) env s
  |.neq=>.ok (.d (bD (!(a.toList==b.toList)))) env s
  |_=>.bad
 |_,_=>.bad
def MW(neg:Bool)(a b:Bool):Bool:=match neg with|true=>a != b|false=>a==b
def JA(neg:Bool)(env:List AV)(s:iw):AV->AV->Out
 |.d (.lit (.bool a)),.d (.lit (.bool b))=>.ok (.d (bD (MW neg a b))) env s
 |_,_=>.bad
def LP(neg b:Bool):Bool:=match neg with|true=>!b|false=>b
def Is(neg:Bool)(env:List AV)(s:iw):Option (Nat×List D)->Out
 |some (_,xs)=>.P8 (xs=[]) (.ok (.d (bD (LP neg true))) env s) (.ok (.d (bD (LP neg false))) env s)
 |none=>.bad
def E3(neg:Bool)(env:List AV)(s:iw)(x:AV):Option Bool->Out
 |some b=>.ok (.d (bD (LP neg b))) env s
 |none=>Is neg env s (qR x)
def Y5(env:List AV)(s:iw):UnOp->AV->Out
 |.not,.d (.lit (.bool b))=>.ok (.d (bD (!b))) env s
 |.neg,.d (.lit (.int k n))=>.ok (.d (.lit (.int k (k.wrap (0-n))))) env s
 |_,_=>.bad
def JN(k:IntKind)(env:List AV)(s:iw):AV->Out
 |.d (.lit (.int _ n))=>.ok (.d (.lit (.int k (k.wrap n)))) env s
 |_=>.bad
def Kl(env:List AV)(s:iw)(a b:AV):AV->Out
 |.d (.lit (.bool t))=>.br t (.ok a env s) (.ok b env s)
 |_=>.bad
def T0(env:List AV)(s:iw):AV->Out
 |.ptr id off=>.ok (.ptr id off) env s
 |.pv cs=>.ok (.pv cs) env s
 |.fn f a b=>.ok (.fn f a b) env s
 |.lN id m off=>.ok (.lN id m off) env s
 |_=>.bad
def Wp(off:Nat)(env:List AV)(s:iw):AV->Out
 |.ptr id o=>.ok (.ptr id (o+off)) env s
 |.pv cs=>.ok (.pv (cs.drop off)) env s
 |.lN id k o=>.ok (.lN id k (o+off)) env s
 |_=>.bad
def J0(e:Nat)(n:Int)(env:List AV)(s:iw):Option (Nat×List D)->Out
 |some (e',xs)=>.need (e'=e/\0<=n/\n<xs.length) (.ok (.pv (iy (xs.getD n.toNat .any))) env s)
 |none=>.bad
def Dq(e:Nat)(n:Int)(env:List AV)(s:iw):AV->Out
 |.pV e' id off len=>.need (e'=e/\0<=n/\n<len) (.ok (.ptr id (off+n.toNat*e)) env s)
 |.mX e' id m=>.need (e'=e/\0<=n/\n<m) (.ok (.lN id m (n.toNat*e)) env s)
 |x=>J0 e n env s (qR x)
def Q7(e:Nat)(env:List AV)(s:iw)(x:AV):Option Int->Out
 |some n=>Dq e n env s x
 |none=>.bad
def SS(e n:Nat)(env:List AV)(s:iw):Option Int->AV->Out
 |some j,.ptr id off=>.need (0<=j/\j<n) (.ok (.ptr id (off+j.toNat*e)) env s)
 |some j,.pv cs=>.need (0<=j/\j<n) (.ok (.pv (cs.drop (j.toNat*e))) env s)
 |_,_=>.bad
def N_(env:List AV)(s:iw):Option (Nat×List D)->Out
 |some (_,xs)=>.ok (.d (iD xs.length)) env s
 |none=>.bad
def IL(env:List AV)(s:iw):AV->Out
 |.pV _ _ _ n=>.ok (.d (iD n)) env s
 |.mX _ _ n=>.ok (.d (iD n)) env s
 |x=>N_ env s (qR x)
def KC(x:AV)(e:Nat)(env:List AV)(s:iw)(lo:Option Int)(hi:Option Operand):Option (Nat×List D)->Out
 |some (e',xs)=>match lo,CT env xs.length hi with
  |some l,some h=>.need ((xs=[]\/e'=e)/\0<=l/\l<=h/\h<=xs.length) (.ok (.d (.sl e' (zh x) ((xs.take h.toNat).drop l.toNat))) env s)
  |_,_=>.bad
 |none=>.bad
def VK(e:Nat)(env:List AV)(s:iw):Option Operand->Option Int->Option Int->Option (Nat×List D)->Out
 |none,some h,some m,some (e',xs)=>.need ((xs=[]\/e'=e)/\h=m/\0<=h/\h<=xs.length) (.ok (.Cq e' (xs.take h.toNat)) env s)
 |_,_,_,_=>.bad
def YZ(env:List AV):Option Operand->Option Int
 |some h=>kC (ev env h)
 |none=>none
def LY(x:AV)(e:Nat)(env:List AV)(s:iw)(lo hi:Option Operand):Option Operand->Out
 |none=>KC x e env s (CT env 0 lo) hi (qR x)
 |some m=>VK e env s lo (YZ env hi) (kC (ev env m)) (qR x)
def Ot(t:Nat)(env:List AV)(s:iw):AV->Out
 |.d (.agg [])=>.ok (.d (.lit (.iface t (.agg #[])))) env s
 |_=>.bad
def I7(e k0 j n:Nat)(h:Int)(env:List AV)(s:iw):Ob->Out
 |.kU t e2 m cs=>.need (e2=e/\n=m/\0<=h/\h<=m/\k0<=j) (.ok (.mX e j (Ln h.toNat m)) (AV.jk (iM j) env) (sset (jD j s) j (.kU t e (Ln h.toNat m) (QT h.toNat e cs))))
 |_=>.bad
def O7(e k0:Nat)(env:List AV)(s:iw):AV->Option Int->Out
 |.mX e' j n,some h=>.need (e'=e) (I7 e k0 j n h env s (sat s j))
 |_,_=>.bad
def KA(e n:Nat)(env:List AV)(s:iw):AV->Option Operand->Option Operand->Option Operand->Out
 |.ptr id off,none,none,none=>.ok (.pV e id off n) env s
 |.ptr id off,none,some h,none=>match kC (ev env h)with
  |some h=>.need (0<=h/\h<=n) (.ok (.pV e id off h.toNat) env s)
  |none=>.bad
 |_,_,_,_=>.bad
def Jy(t e bytes:Nat)(j:Nat)(xs ys:List D)(env:List AV)(s:iw)(ob:Ob):Out:=
 .need (ob=.tok t e xs.length/\(xs.length+ys.length)*bytes<=2^47) (.ok (.own e j (xs++ys)) env (sset s j (.tok t e (xs.length+ys.length))))
def MP(t e bytes:Nat)(j n:Nat)(ys:List D)(env:List AV)(s:iw):Ob->Out
 |.kU t' e2 m cs=>.need (t'=t/\e2=e/\m=n/\(n+ys.length)*bytes<=2^47) (.ok (.mX e j (n+ys.length)) env (sset s j (.kU t e (n+ys.length) (cs++ys.flatMap iy))))
 |_=>.bad
def F4(id t e bytes k0:Nat)(e2:Nat)(ys:List D)(env:List AV)(s:iw):AV->Out
 |.own e' j xs=>.need ((ys=[]\/e2=e)/\e'=e) (Jy t e bytes j xs ys env s (sat s j))
 |.mX e' j n=>.need ((ys=[]\/e2=e)/\e'=e) (MP t e bytes j n ys env s (sat s j))
 |.d (.sl _ (some true) [])=>.need ((ys=[]\/e2=e)/\ys.length*bytes<=2^47/\k0<=id) (xC id t e ys env s (sat s id))
 |.Cq e' xs=>.need ((ys=[]\/e2=e)/\e'=e/\(xs.length+ys.length)*bytes<=2^47) (.ok (.d (.sl e none (xs++ys))) env s)
 |_=>.bad
def KS(id t e bytes k0:Nat)(x:AV)(env:List AV)(s:iw):Option (Nat×List D)->Out
 |some (e2,ys)=>F4 id t e bytes k0 e2 ys env s x
 |none=>.bad
def Bq(id t e bytes k0:Nat)(e2:Nat)(ys:List D)(env:List AV)(s:iw):AV->Out
 |.d (.sl _ (some true) [])=>.need ((ys=[]\/e2=e)/\ys.length*bytes<=2^47/\k0<=id) (AR id t e ys env s (sat s id))
 |x=>F4 id t e bytes k0 e2 ys env s x
def CR(id t e bytes k0:Nat)(x:AV)(env:List AV)(s:iw):Option (Nat×List D)->Out
 |some (e2,ys)=>Bq id t e bytes k0 e2 ys env s x
 |none=>.bad
def UK(i:Nat)(env:List AV)(s:iw):AV->Out
 |.mB cs=>.need (i<cs.length) (.ok (cs.getD i .iG) env s)
 |_=>.bad
def Cu(mx:Bool)(env:List AV)(s:iw):AV->AV->Out
 |.d (.lit (.int k a)),.d (.lit (.int k' b))=>.need (k=k') (.ok (.d (.lit (.int k (match mx with|true=>if b>a then b else a|false=>if b<a then b else a)))) env s)
 |_,_=>.bad
def KV(id t k0:Nat)(env:List AV)(s:iw):Option (List AV)->Out
 |some cs=>.need (k0<=id) (zg id t cs env s (sat s id))
 |none=>.bad
def MZ(env:List AV)(s:iw):Option (List AV)->Out
 |some cs=>.ok (AV.mk cs) env s
 |none=>.bad
def Qi(id t e k0:Nat)(env:List AV)(s:iw):Option (List D)->Out
 |some ds=>.need ((∀d∈ds,(iy d).length=e)/\k0<=id) (xC id t e ds env s (sat s id))
 |none=>.bad
def Ru(id t e n:Nat)(cs env:List AV)(s:iw):Ob->Out
 |.dead=>.ok (.pV e id 0 n) env (sset s id (.obj t cs))
 |_=>.bad
def Fh(id t e:Nat)(ds:List D)(cs env:List AV)(s:iw):Ob->Out
 |.dead=>.ok (.own e id ds) env (sset s id (.oR t e ds.length cs))
 |.obj _ _=>.ok (.own e id ds) (AV.jk (iM id) env) (sset (jD id s) id (.oR t e ds.length (AV.jk (iM id) cs)))
 |.tok _ _ _=>.ok (.own e id ds) (AV.jk (iM id) env) (sset (jD id s) id (.oR t e ds.length (AV.jk (iM id) cs)))
 |.kU _ _ _ _=>.ok (.own e id ds) (AV.jk (iM id) env) (sset (jD id s) id (.oR t e ds.length (AV.jk (iM id) cs)))
 |.oR _ _ _ _=>.ok (.own e id ds) (AV.jk (iM id) env) (sset (jD id s) id (.oR t e ds.length (AV.jk (iM id) cs)))
 |.tK _ _ _=>.ok (.own e id ds) (AV.jk (iM id) env) (sset (jD id s) id (.oR t e ds.length (AV.jk (iM id) cs)))
 |.mp _ _ _=>.ok (.own e id ds) (AV.jk (iM id) env) (sset (jD id s) id (.oR t e ds.length (AV.jk (iM id) cs)))
def JE(id t e k0:Nat)(env:List AV)(s:iw):Option (List D)->Option (List AV)->Out
 |some ds,some cs=>.need ((∀d∈ds,(iy d).length=e)/\xX cs=true/\k0<=id) (Fh id t e ds cs env s (sat s id))
 |_,_=>.bad
def JC(id t e k0:Nat)(env:List AV)(s:iw):Option (List D)->Out
 |some ds=>.need ((∀d∈ds,(iy d).length=e)/\k0<=id) (AR id t e ds env s (sat s id))
 |none=>.bad
def J8(id t e bytes k0:Nat)(z:List D)(env:List AV)(s:iw):Bool->Option Int->Option Int->Out
 |true,some l,some c=>.need (0<=l/\l<=c/\bytes*c<=2^48/\c<2^62/\k0<=id) (xC id t e [] env s (sat s id))
 |false,some l,some c=>.need (0<=l/\l<=c/\bytes*c<=2^48/\c<2^62/\k0<=id) (Fg id t e l.toNat ((List.replicate l.toNat (z.map .d)).flatten) env s (sat s id))
 |_,_,_=>.bad
def IY(id e bytes k0:Nat)(z:List D)(env:List AV)(s:iw):Bool->Option Int->Option Int->Out
 |false,some l,some c=>.need (0<e/\0<=l/\l<=c/\bytes*c<=2^48/\c<2^62/\k0<=id/\(sat s id).kI=true) (.ok (.mX e id l.toNat) env (sset s id (.tK e l.toNat ((List.replicate l.toNat (z.map .d)).flatten))))
 |_,_,_=>.bad
def Ig(P:Program)(args env:List AV)(s:iw):AV->Out
 |.fn f first cap=>.need (enters P f=true) (.call f (first++args++cap) env s)
 |_=>.bad
def Rv(P:Program)(id k:Nat)(env:List AV)(s:iw):Bool->Out
 |true=>.ok (.mp id) env (sset s id (.mp P k []))
 |false=>.ok (.mp id) (AV.jk (iM id) env) (sset (jD id s) id (.mp P k []))
noncomputable def kV(P:Program)(k0:Nat)(env:List AV)(s:iw):sH->Out
 |.mv x=>.ok (ev env x) env s
 |.pick c a b=>Kl env s (ev env a) (ev env b) (ev env c)
 |.alloc id t z=>.need (k0<=id) (zg id t (z.map .d) env s (sat s id))
 |.box id t x=>KV id t k0 env s (ev env x).cells
 |.EY id _ t x=>KV id t k0 env s (ev env x).cells
 |.build z ps=>MZ env s (oP env (z.map .d) ps)
 |.mD id t e xs=>Qi id t e k0 env s (AV.lW (xs.map (ev env)))
 |.zu id t e xs=>JC id t e k0 env s (AV.lW (xs.map (ev env)))
 |.Ea id t e xs=>JE id t e k0 env s (AV.lW (xs.map (ev env))) (AV.flat e (xs.map (ev env)))
 |.load n ag p=>EA n ag env s (ev env p)
 |.store n p x=>DR n env s (ev env x) (ev env p)
 |.mE x=>T0 env s (ev env x)
 |.bin op x y=>Qf op env s (ev env x) (ev env y)
 |.D_ neg x y=>JA neg env s (ev env x) (ev env y)
 |.uK neg x=>E3 neg env s (ev env x) (zh (ev env x))
 |.un op x=>Y5 env s op (ev env x)
 |.conv k x=>JN k env s (ev env x)
 |.Cj f first cap=>.ok (.fn f (first.map (ev env)) (cap.map (ev env))) env s
 |.AQ id _ e bytes z tok len cap=>IY id e bytes k0 z env s tok (kC (ev env len)) (kC (ev env cap))
 |.zy id t e bytes z tok len cap=>J8 id t e bytes k0 z env s tok (kC (ev env len)) (kC (ev env cap))
 |.slc x e lo hi mx=>LY (ev env x) e env s lo hi mx
 |.Fz p e n lo hi mx=>KA e n env s (ev env p) lo hi mx
 |.P0 off p=>Wp off env s (ev env p)
 |.tG e x i=>Q7 e env s (ev env x) (kC (ev env i))
 |.xu e n p i=>SS e n env s (kC (ev env i)) (ev env p)
 |.len x=>IL env s (ev env x)
 |.app id t e bytes x y=>KS id t e bytes k0 (ev env x) env s (qR (ev env y))
 |.D9 id t e bytes x y=>CR id t e bytes k0 (ev env x) env s (qR (ev env y))
 |.ke f args=>.call f (args.map (ev env)) env s
 |.qW g args=>Ig P (args.map (ev env)) env s (ev env g)
 |.ext x i=>UK i env s (ev env x)
 |.min x y=>Cu false env s (ev env x) (ev env y)
 |.D3 _=>.bad
 |.DM x e y=>O7 e k0 env s (ev env x) (kC (ev env y))
 |.AP t x=>Ot t env s (ev env x)
 |.dead=>.bad
theorem OO(ρ:Nat->Option Nat):∀z:List D,AV.jk ρ (z.map .d)=z.map .d
 |[]=>rfl
 |x::xs=>by simp only[aO,AV.jk,AV.lq,OO ρ xs]
theorem A2(ρ:Nat->Option Nat):∀z:List AV,AV.jk ρ z=z.map (AV.lq ρ)
 |[]=>rfl
 |x::xs=>by simp only[aO,AV.jk,A2 ρ xs]
theorem F6{P:Program}{k0 id t e bytes:Nat}{x y:AV}{env:List AV}{s:iw}{K:AV->List AV->iw->Prop}(h:runK P k0 K (KS id t e bytes k0 x env s (qR y))):
 KR id t e bytes k0 x y env s K:=by
 unfold KR;cases hs:qR y with
 |none=>rw[hs]at h;exact h.elim
 |some p=>
  obtain⟨e2,ys⟩:=p;rw[hs]at h;simp only[KS,F4]at h⊢;split at h
  ·simp only[runK,Jy]at h;exact⟨h.1.1,h.1.2,h.2.1.1,h.2.1.2,h.2.2⟩
  ·rename_i e' j n;simp only[runK]at h;refine⟨h.1.1,h.1.2,?_⟩;have h:=h.2;cases hq:sat s j<;>simp only[hq,MP,runK]at h⊢
   exact⟨h.1.1,h.1.2.1,h.1.2.2.1,h.1.2.2.2,h.2⟩
  ·simp only[runK]at h;refine⟨h.1.1,h.1.2.1,h.1.2.2,?_⟩;have h:=h.2;cases hq:sat s id<;>simp only[hq,xC,runK,Ob.kI,aC,ak,aB]at h⊢<;>exact h
  ·simp only[runK]at h;exact⟨h.1.1,h.1.2.1,h.1.2.2,h.2⟩
  ·exact h.elim
theorem KU{P:Program}{k0 id t e bytes:Nat}{x y:AV}{env:List AV}{s:iw}{K:AV->List AV->iw->Prop}(h:runK P k0 K (CR id t e bytes k0 x env s (qR y))):
 F7 id t e bytes k0 x y env s K:=by
 unfold F7;split
 ·rename_i e2 ys e4 hs;rw[hs]at h;simp only[CR,Bq,runK]at h;refine⟨h.1.1,h.1.2.1,?_⟩;unfold vE;refine⟨h.1.2.2,?_⟩;have h:=h.2;cases hq:sat s id<;>simp only[hq,AR,runK,Ob.kI,aC,ak,aB]at h⊢<;>exact h
 ·rename_i hn;refine F6 (P:=P) ?_;cases hs:qR y with
  |none=>rw[hs]at h;exact h
  |some p=>
   obtain⟨e2,ys⟩:=p;rw[hs]at h;simp only[CR]at h;unfold Bq at h;split at h
   ·rename_i e4;exact absurd rfl (hn e2 ys e4 hs)
   ·exact h
theorem HC{P:Program}{k0:Nat}{m:sH}{env:List AV}{s:iw}{K:AV->List AV->iw->Prop}(h:runK P k0 K (kV P k0 env s m)):qT P k0 m env s K:=by
 cases m with
 |mv x=>exact h
 |pick c a b=>
  simp only[kV,Kl,qT]at h⊢;split at h
  ·rename_i t ht;try rw[ht]
   simpa[Br,runK]using h
  ·exact h.elim
 |alloc id t z=>
  simp only[kV,runK,qT,vE]at h⊢;refine⟨h.1,?_⟩;cases hs:sat s id<;>simp only[hs,zg,runK,Ob.kI,aC,ak,aB,OO]at h⊢<;>exact h.2
 |EY id d t x=>
  simp only[kV,qT]at h⊢;cases hc:(ev env x).cells with
  |none=>rw[hc]at h;exact h.elim
  |some cs=>
   rw[hc]at h;simp only[KV,runK,vE]at h⊢;refine⟨h.1,?_⟩;cases hs:sat s id<;>simp only[hs,zg,runK,Ob.kI,aC,ak,aB,A2]at h⊢
   ·simpa using h.2
   all_goals exact h.2
 |box id t x=>
  simp only[kV,qT]at h⊢;cases hc:(ev env x).cells with
  |none=>rw[hc]at h;exact h.elim
  |some cs=>
   rw[hc]at h;simp only[KV,runK,vE]at h⊢;refine⟨h.1,?_⟩;cases hs:sat s id<;>simp only[hs,zg,runK,Ob.kI,aC,ak,aB,A2]at h⊢
   ·simpa using h.2
   all_goals exact h.2
 |build z ps=>
  simp only[kV,qT]at h⊢;cases hc:oP env (z.map .d) ps with
  |none=>rw[hc]at h;exact h.elim
  |some cs=>rw[hc]at h;exact h
 |mD id t e xs=>
  simp only[kV,qT]at h⊢;cases hc:AV.lW (xs.map (ev env))with
  |none=>rw[hc]at h;exact h.elim
  |some ds=>
   rw[hc]at h;simp only[Qi,runK,vE]at h⊢;refine⟨h.1.1,h.1.2,?_⟩;cases hs:sat s id<;>simp only[hs,xC,runK,Ob.kI,aC,ak,aB]at h⊢<;>exact h.2
 |zu id t e xs=>
  simp only[kV,qT]at h⊢;cases hc:AV.lW (xs.map (ev env))with
  |none=>rw[hc]at h;exact h.elim
  |some ds=>
   rw[hc]at h;simp only[JC,runK,vE]at h⊢;refine⟨h.1.1,h.1.2,?_⟩;cases hs:sat s id<;>simp only[hs,AR,runK,Ob.kI,aC,ak,aB]at h⊢<;>exact h.2
 |load n ag p=>
  simp only[kV,qT,rH]at h⊢;cases hp:ev env p with
  |ptr id off=>
   rw[hp]at h;simp only[EA]at h⊢;cases hs:sat s id<;>rw[hs]at h<;>simp only[IM,runK]at h⊢
   cases ag<;>exact h
  |pv cs=>rw[hp]at h;simp only[EA,runK]at h⊢;cases ag<;>exact h
  |lN id kk off=>
   rw[hp]at h;simp only[EA]at h⊢;cases hs:sat s id<;>rw[hs]at h<;>simp only[IP,runK]at h⊢
   ·cases ag<;>exact⟨h.1.1,h.1.2,h.2⟩
   ·exact⟨h.1.1,h.1.2.1,h.1.2.2.1,h.1.2.2.2.1,h.1.2.2.2.2,h.2⟩
  |_=>rw[hp]at h;exact h.elim
 |store n p x=>
  simp only[kV,qT,FD]at h⊢;cases hp:ev env p with
  |ptr id off=>
   rw[hp]at h;simp only[DR]at h⊢;cases hs:sat s id<;>rw[hs]at h<;>cases hc:(ev env x).cells<;>rw[hc]at h<;>simp only[FF,runK]at h⊢
   exact⟨h.1.1,h.1.2,h.2⟩
  |lN id kk off=>
   rw[hp]at h;simp only[DR]at h⊢;cases hs:sat s id<;>rw[hs]at h<;>simp only at h⊢
   case kU=>cases hc:(ev env x).fin<;>rw[hc]at h<;>simp only[CE,runK]at h⊢<;>exact⟨h.1.1,h.1.2.1,h.1.2.2,h.2⟩
   case tK e1 m1 cs1=>
    have h:runK P k0 K (CF n kk off id e1 m1 cs1 env s (ev env x).cells):=by cases hc:(ev env x).fin<;>rw[hc]at h<;>exact h
    cases hc:(ev env x).cells<;>rw[hc]at h<;>simp only[CF,runK]at h⊢
    exact⟨h.1.1,h.1.2.1,h.1.2.2.1,h.1.2.2.2.1,h.1.2.2.2.2,h.2⟩
   all_goals(cases hc:(ev env x).fin<;>rw[hc]at h<;>simp only[CE,runK]at h)
  |_=>rw[hp]at h;exact h.elim
 |mE x=>
  simp only[kV,qT]at h⊢;cases hp:ev env x<;>rw[hp]at h<;>first|exact h|exact h.elim
 |bin op x y=>
  simp only[kV,qT,Qe,Qf]at h⊢;split at h
  ·rename_i k a k' b h1 h2;try rw[h1,h2]
   simp only[runK]at h;refine⟨h.1,?_⟩;have h:=h.2;cases op<;>exact h
  ·rename_i a b h1 h2;try rw[h1,h2]
   cases op<;>first|exact h|exact h.elim
  ·exact h.elim
 |D_ neg x y=>
  simp only[kV,qT,JA]at h⊢;split at h
  ·rename_i a b h1 h2;try rw[h1,h2]
   cases neg<;>exact h
  ·exact h.elim
 |uK neg x=>
  simp only[kV,qT]at h⊢;cases hc:zh (ev env x)with
  |none=>
   rw[hc]at h;simp only[E3]at h;cases hs:qR (ev env x)with
   |none=>rw[hs]at h;exact h.elim
   |some p=>rw[hs]at h;cases neg<;>exact h
  |some b=>rw[hc]at h;cases neg<;>exact h
 |un op x=>
  simp only[kV,qT,Y5]at h⊢;split at h
  ·rename_i b h1;(try rw[h1]);exact h
  ·rename_i k n h1;(try rw[h1]);exact h
  ·exact h.elim
 |conv k x=>
  simp only[kV,qT,JN]at h⊢;split at h
  ·rename_i k' n h1;(try rw[h1]);exact h
  ·exact h.elim
 |Cj f first cap=>exact h
 |AQ id t e bytes z tok len cap=>
  simp only[kV,qT]at h⊢;generalize kC (ev env len)=X at h⊢;generalize kC (ev env cap)=Y at h⊢;cases tok<;>cases X<;>cases Y<;>simp only[IY,runK]at h⊢<;>first
   |exact⟨trivial,h.1.1,h.1.2.1,h.1.2.2.1,h.1.2.2.2.1,h.1.2.2.2.2.1,h.1.2.2.2.2.2.1,h.1.2.2.2.2.2.2,h.2⟩
   |exact h
 |zy id t e bytes z tok len cap=>
  simp only[kV,qT]at h⊢;cases h1:kC (ev env len)<;>cases h2:kC (ev env cap)<;>cases tok<;>rw[h1,h2]at h<;>simp only[J8,runK]at h⊢
  ·obtain⟨⟨a1,a2,a3,a4,a5⟩,h⟩:=h;refine⟨a1,a2,a3,a4,a5,?_⟩;cases hs:sat s id<;>simp only[hs,Fg,runK,Ob.kI,aC,ak,aB]at h⊢<;>exact h
  ·obtain⟨⟨a1,a2,a3,a4,a5⟩,h⟩:=h;refine⟨a1,a2,a3,a4,a5,?_⟩;cases hs:sat s id<;>simp only[hs,xC,runK,Ob.kI,aC,ak,aB]at h⊢<;>exact h
 |slc x e lo hi mx=>
  simp only[kV,qT]at h⊢;cases mx with
  |some m=>
   simp only[LY]at h;cases lo with
   |some _=>cases hi<;>exact h.elim
   |none=>
    cases hi with
    |none=>exact h.elim
    |some hh=>
     simp only[YZ]at h;cases h1:kC (ev env hh)with
     |none=>rw[h1]at h;exact h.elim
     |some hv=>
      cases h2:kC (ev env m)with
      |none=>rw[h1,h2]at h;exact h.elim
      |some mv=>
       cases hs:qR (ev env x)with
       |none=>rw[h1,h2,hs]at h;exact h.elim
       |some p=>
        obtain⟨e',xs⟩:=p;rw[h1,h2,hs]at h;simp only[VK,runK]at h;obtain⟨⟨k1,rfl,k2,k3⟩,k4⟩:=h;exact⟨rfl,hh,hv,rfl,h1,h2,k1,k2,k3,k4⟩
  |none=>
   simp only[LY]at h;cases hs:qR (ev env x)with
   |none=>rw[hs]at h;exact h.elim
   |some p=>
    obtain⟨e',xs⟩:=p;rw[hs]at h;simp only[KC]at h⊢;split at h
    ·rename_i l hh h1 h2;simp only[runK]at h;refine⟨h.1.1,?_⟩;unfold R_;rw[hs,h1,h2];exact⟨h.1.2.1,h.1.2.2.1,h.1.2.2.2,h.2⟩
    ·exact h.elim
 |Fz p e n lo hi mx=>
  simp only[kV,qT,KA]at h⊢;split at h
  ·rename_i id off h1;(try rw[h1]);exact h
  ·rename_i id off hh h1;try rw[h1]
   split at h
   ·rename_i h' h2;(try simp only[h2]);exact⟨h.1.1,h.1.2,h.2⟩
   ·exact h.elim
  ·exact h.elim
 |P0 off p=>
  simp only[kV,qT]at h⊢;cases hp:ev env p<;>rw[hp]at h<;>first|exact h|exact h.elim
 |tG e x i=>
  simp only[kV,qT,Q5]at h⊢;cases hi:kC (ev env i)with
  |none=>rw[hi]at h;exact h.elim
  |some n=>
   rw[hi]at h;simp only[Q7]at h⊢;cases hx:ev env x<;>rw[hx]at h<;>simp only[Dq]at h⊢<;>first
    |exact⟨h.1.1,h.1.2.1,h.1.2.2,h.2⟩
    |(
     split
     ·rename_i e' xs hs;rw[hs]at h;exact⟨h.1.1,h.1.2.1,h.1.2.2,h.2⟩
     ·rename_i hs;rw[hs]at h;exact h.elim)
 |xu e n p i=>
  simp only[kV,qT]at h⊢;cases hi:kC (ev env i)<;>cases hp:ev env p<;>rw[hi,hp]at h<;>first|exact⟨h.1.1,h.1.2,h.2⟩|exact h.elim
 |len x=>
  simp only[kV,qT]at h⊢;cases hx:ev env x<;>rw[hx]at h<;>simp only[IL]at h⊢<;>first
   |exact h
   |(
    split
    ·rename_i e' xs hs;rw[hs]at h;exact h
    ·rename_i hs;rw[hs]at h;exact h.elim)
 |app id t e bytes x y=>exact F6 h
 |Ea id t e xs=>
  simp only[kV,qT,MX]at h⊢;generalize AV.lW (xs.map (ev env))=X at h⊢;generalize AV.flat e (xs.map (ev env))=Y at h⊢;unfold JE at h;split at h
  ·simp only[runK]at h;refine⟨h.1.1,h.1.2.1,h.1.2.2,?_⟩;have h:=h.2;cases hs:sat s id<;>simp only[hs,Fh,runK,Ob.kI,aC,ak,aB,A2]at h⊢<;>first|exact h|simpa using h
  ·exact h.elim
 |D9 id t e bytes x y=>exact KU h
 |ke f args=>exact h
 |qW g args=>
  simp only[kV,qT,Ig]at h⊢;split at h
  ·rename_i f first cap h1;(try rw[h1]);exact h
  ·exact h.elim
 |ext x i=>
  simp only[kV,qT,UK]at h⊢;split at h
  ·rename_i cs h1;(try rw[h1]);exact h
  ·exact h.elim
 |min x y=>
  simp only[kV,qT,Cu]at h⊢;split at h
  ·rename_i k a k' b h1 h2;(try rw[h1,h2]);exact h
  ·exact h.elim
 |D3 x=>exact h
 |AP t x=>
  simp only[kV,qT]at h⊢;generalize ev env x=X at h⊢;unfold Ot at h;split at h
  ·exact⟨rfl,h⟩
  ·exact h.elim
 |DM x e y=>
  simp only[kV,qT]at h⊢;generalize ev env x=X at h⊢;generalize kC (ev env y)=Y at h⊢;cases X<;>cases Y<;>simp only[O7]at h⊢<;>first
   |exact h.elim
   |(rename_i e1 j n hv;simp only[runK]at h;obtain⟨he,h⟩:=h;unfold RO;cases hs:sat s j<;>rw[hs]at h<;>simp only[I7,runK]at h⊢<;>first|exact h.elim|exact⟨he,h.1.1,h.1.2.1,h.1.2.2.1,h.1.2.2.2.1,h.1.2.2.2.2,h.2⟩)
 |dead=>exact h
def mu(P:Program)(k0 f:Nat)(args env:List AV)(s:iw)(d:Option Nat)(R:List AV->iw->Prop):Prop:=
 BV P k0 f args env s fun x env s=>R (iZ d env x) s
def mL(P:Program)(k0:Nat)(R:List AV->iw->Prop)(d:Option Nat):Out->Prop
 |.ok x env s=>R (iZ d env x) s
 |.need p o=>p/\mL P k0 R d o
 |.br b o1 o2=>if b=true then mL P k0 R d o1 else mL P k0 R d o2
 |.call f args env s=>mu P k0 f args env s d R
 |.P8 p o1 o2=>(p->mL P k0 R d o1)/\mL P k0 R d o2
 |.bad=>False
def Cb(P:Program)(k0:Nat)(R:List AV->iw->Prop)(d:Option Nat)(b:Bool)(o1 o2:Out):Prop:=
 if b=true then mL P k0 R d o1 else mL P k0 R d o2
theorem Sq{P:Program}{k0:Nat}{R:List AV->iw->Prop}{d:Option Nat}{b:Bool}{o1 o2:Out}:mL P k0 R d (.br b o1 o2)=Cb P k0 R d b o1 o2:=(rfl)
theorem Wc{P:Program}{k0:Nat}{R:List AV->iw->Prop}{d:Option Nat}{o1 o2:Out}:Cb P k0 R d true o1 o2=mL P k0 R d o1:=by simp[Cb]
theorem Wb{P:Program}{k0:Nat}{R:List AV->iw->Prop}{d:Option Nat}{o1 o2:Out}:Cb P k0 R d false o1 o2=mL P k0 R d o2:=by simp[Cb]
def wo(P:Program)(k0:Nat)(K:List AV->iw->Prop):List iO->List AV->iw->Prop
 |[],env,s=>K env s
 |m::ms,env,s=>match m.guard with
  |none=>mL P k0 (wo P k0 K ms) m.dst (kV P k0 env s m.op)
  |some (g,want)=>match g with
   |none=>wo P k0 K ms (iZ m.dst env (.mB [])) s
   |some d=>match env.getD d .iG with
    |.d (.lit (.bool b))=>if b=want then mL P k0 (wo P k0 K ms) m.dst (kV P k0 env s m.op)else wo P k0 K ms (iZ m.dst env (.mB [])) s
    |.mB []=>wo P k0 K ms (iZ m.dst env (.mB [])) s
    |_=>False
def zM(P:Program)(k0:Nat)(K:List AV->iw->Prop)(b want:Bool)(m:sH)(d:Option Nat)(ms:List iO)(env:List AV)(s:iw):Prop:=
 if b=want then mL P k0 (wo P k0 K ms) d (kV P k0 env s m)else wo P k0 K ms (iZ d env (.mB [])) s
section
variable{P:Program}{k0:Nat}{K:List AV->iw->Prop}{b want:Bool}{m:sH}{d:Option Nat}{ms:List iO}{env:List AV}{s:iw}
theorem Ui:zM P k0 K true true m d ms env s=mL P k0 (wo P k0 K ms) d (kV P k0 env s m):=by simp[zM]
theorem Uf:zM P k0 K false false m d ms env s=mL P k0 (wo P k0 K ms) d (kV P k0 env s m):=by simp[zM]
theorem Uh:zM P k0 K true false m d ms env s=wo P k0 K ms (iZ d env (.mB [])) s:=by simp[zM]
theorem Ug:zM P k0 K false true m d ms env s=wo P k0 K ms (iZ d env (.mB [])) s:=by simp[zM]
def VQ(P:Program)(k0:Nat)(K:List AV->iw->Prop)(want:Bool)(m:sH)(d:Option Nat)(ms:List iO)(env:List AV)(s:iw):AV->Prop
 |.d (.lit (.bool b))=>zM P k0 K b want m d ms env s
 |.mB []=>wo P k0 K ms (iZ d env (.mB [])) s
 |_=>False
theorem Sn:wo P k0 K [] env s=K env s:=(rfl)
theorem Mb:wo P k0 K (⟨d,m,none⟩::ms) env s=mL P k0 (wo P k0 K ms) d (kV P k0 env s m):=(rfl)
theorem Ma{g:Nat}:wo P k0 K (⟨d,m,some (some g,want)⟩::ms) env s=VQ P k0 K want m d ms env s (env.getD g .iG):=by
 simp only[wo];split
 ·rename_i b h;rw[h];rfl
 ·rename_i h;rw[h];rfl
 ·rename_i h h';unfold VQ;split
  ·rename_i b h2;exact absurd h2 (h b)
  ·rename_i h2;exact absurd h2 h'
  ·rfl
theorem Sr{R:List AV->iw->Prop}{x:AV}:mL P k0 R d (.ok x env s)=R (iZ d env x) s:=(rfl)
theorem Me{R:List AV->iw->Prop}{p:Prop}{o:Out}:mL P k0 R d (.need p o)=(p/\mL P k0 R d o):=(rfl)
def uj(P:Program)(k0:Nat)(R:List AV->iw->Prop)(d:Option Nat)(p:Prop)(o1 o2:Out):Prop:=(p->mL P k0 R d o1)/\mL P k0 R d o2
theorem uj.of{P:Program}{k0:Nat}{R:List AV->iw->Prop}{d:Option Nat}{p:Prop}{o1 o2:Out}(h1:p->mL P k0 R d o1)(h2:mL P k0 R d o2):uj P k0 R d p o1 o2:=⟨h1,h2⟩
theorem Pz{R:List AV->iw->Prop}{p:Prop}{o1 o2:Out}:mL P k0 R d (.P8 p o1 o2)=uj P k0 R d p o1 o2:=(rfl)
theorem Md{R:List AV->iw->Prop}{f:Nat}{args:List AV}:mL P k0 R d (.call f args env s)=mu P k0 f args env s d R:=(rfl)
end
theorem va{P:Program}{k0:Nat}{R:List AV->iw->Prop}{d:Option Nat}{K:AV->List AV->iw->Prop}(hK:∀x env s,R (iZ d env x) s->K x env s):
 ∀{o:Out},mL P k0 R d o->runK P k0 K o
 |.ok x env s=>fun h=>hK x env s h
 |.need p o=>fun h=>⟨h.1,va hK h.2⟩
 |.br b o1 o2=>fun h=>by
  cases b with
  |true=>simp only[mL,aC]at h;simp only[runK,aC];exact va hK h
  |false=>simp only[mL,ak,aB]at h;simp only[runK,ak,aB];exact va hK h
 |.call _ _ _ _=>fun h=>Ic (K:=fun x env s=>R (iZ d env x) s) h fun x env s=>hK x env s
 |.P8 p o1 o2=>fun h=>⟨fun hp=>va hK (h.1 hp),va hK h.2⟩
 |.bad=>fun h=>h
theorem rK{P:Program}{k0:Nat}{K:List AV->iw->Prop}:∀{ms:List iO}{env:List AV}{s:iw},wo P k0 K ms env s->vA P k0 ms env s K
 |[],env,s=>fun h=>h
 |m::ms,env,s=>fun h=>by
  have step:mL P k0 (wo P k0 K ms) m.dst (kV P k0 env s m.op)->qT P k0 m.op env s fun x env s=>vA P k0 ms (iZ m.dst env x) s K:=
   fun h=>HC (va (fun _ _ _ h=>rK h) h)
  simp only[wo,vA]at h⊢;split
  ·rename_i hg;rw[hg]at h;exact step h
  ·rename_i g want hg;rw[hg]at h;cases g with
   |none=>exact rK h
   |some d=>
    simp only at h⊢;split
    ·rename_i b hb;rw[hb]at h;unfold Br;simp only at h;split
     ·rename_i hbw;rw[ah hbw]at h;exact step h
     ·rename_i hbw;rw[aj hbw]at h;exact rK h
    ·rename_i hb;rw[hb]at h;exact rK h
    ·rename_i hb hb';split at h
     ·rename_i b h2;exact absurd h2 (hb b)
     ·rename_i h2;exact absurd h2 hb'
     ·exact h
theorem aaa{P:Program}{k:Nat}{Q:Post}{env:List AV}{s:iw}{ms:List iO}(h:wo P k (Q .normal) ms env s):ot P k (.ie ms) Q env s:=XL (rK h)
theorem Oc{e id off n:Nat}{env:List AV}{s:iw}:IL env s (.pV e id off n)=.ok (.d (iD n)) env s:=(rfl)
theorem U1{x:D}{env:List AV}{s:iw}:IL env s (.d x)=N_ env s (qR (.d x)):=(rfl)
theorem Od{e id:Nat}{xs:List D}{env:List AV}{s:iw}:IL env s (.own e id xs)=.ok (.d (iD xs.length)) env s:=(rfl)
theorem Lw{e e' id off len:Nat}{n:Int}{env:List AV}{s:iw}:Dq e n env s (.pV e' id off len)=.need (e'=e/\0<=n/\n<len) (.ok (.ptr id (off+n.toNat*e)) env s):=(rfl)
theorem Q8{e:Nat}{n:Int}{x:D}{env:List AV}{s:iw}:Dq e n env s (.d x)=J0 e n env s (qR (.d x)):=(rfl)
theorem Oa{e id n:Nat}{env:List AV}{s:iw}:IL env s (.mX e id n)=.ok (.d (iD n)) env s:=(rfl)
theorem Lv{e e' id m:Nat}{n:Int}{env:List AV}{s:iw}:Dq e n env s (.mX e' id m)=.need (e'=e/\0<=n/\n<m) (.ok (.lN id m (n.toNat*e)) env s):=(rfl)
theorem Lx{e e' id:Nat}{n:Int}{xs:List D}{env:List AV}{s:iw}:Dq e n env s (.own e' id xs)=J0 e n env s (some (e',xs)):=(rfl)
theorem Gn{neg b:Bool}{env:List AV}{s:iw}{x:AV}:E3 neg env s x (some b)=.ok (.d (bD (LP neg b))) env s:=(rfl)
theorem Gm{neg:Bool}{env:List AV}{s:iw}{x:AV}:E3 neg env s x none=Is neg env s (qR x):=(rfl)
attribute [go_sem] Rv UX XH Ob.kI IY CF Dn Fh JE Ru AV.flat Bq CR AR JC Oa Lv VI IP CE MP Gn Gm Y1 Pz Is Sn Mb Ma VQ Sr Me Md Sq Wc Wb Ui Uf Uh Ug zg xC Fg Ku VH IM EA FF DR Qf MW JA LP Y5 JN Kl T0 Wp J0 Lw Q8 Lx Q7 SS N_ Oc U1 Od KC VK YZ LY O7 I7 Ot KA Jy F4 KS UK Cu KV MZ Qi J8 Ig kV List.drop_zero List.drop_succ_cons List.drop_nil List.take_zero List.take_succ_cons List.take_nil List.headD_cons List.append_nil true_and and_true Nat.zero_add Nat.add_zero if_true if_false Nat.le_refl
inductive rq where
 |ok (x:AV) (δ:List (Nat×Ob))
 |need (p:Prop) (o:rq)
 |br (b:Bool) (o1 o2:rq)
 |call (f:Nat) (args:List AV)
 |bad
def CU(ρ:Operand->AV)(dflt:Int):Option Operand->Option Int
 |none=>some dflt
 |some x=>kC (ρ x)
def sB(ρ:Operand->AV):List AV->List (Nat×Nat×Operand)->Option (List AV)
 |cs,[]=>some cs
 |cs,(off,n,x)::r=>match(ρ x).cells with
  |some xs=>if xs.length=n/\off+n<=cs.length then sB ρ (cs.take off++xs++cs.drop (off+n)) r else none
  |none=>none
def Oh(n:Nat)(ag:Bool)(off:Nat):Ob->rq
 |.obj _ cs=>.need (off+n<=cs.length) (.ok (Ku n off cs ag) [])
 |_=>.bad
def Oi(n:Nat)(ag:Bool)(k off:Nat):Ob->rq
 |.kU _ _ m cs=>.need (m=k/\off+n<=cs.length) (.ok (.d (VI n off cs ag)) [])
 |_=>.bad
def J3(σ:Nat->Ob)(n:Nat)(ag:Bool):AV->rq
 |.ptr id off=>Oh n ag off (σ id)
 |.lN id k off=>Oi n ag k off (σ id)
 |.pv cs=>.need (n<=cs.length) (.ok (.d (VH n cs ag)) [])
 |_=>.bad
def KG(n off id:Nat):Ob->Option (List AV)->rq
 |.obj t cs,some xs=>.need (xs.length=n/\off+n<=cs.length) (.ok .iG [(id,(.obj t (cs.take off++xs++cs.drop (off+n))))])
 |_,_=>.bad
def KH(n k off id:Nat):Ob->Option D->rq
 |.kU t e m cs,some d=>.need (m=k/\(iy d).length=n/\off+n<=cs.length) (.ok .iG [(id,.kU t e m (cs.take off++iy d++cs.drop (off+n)))])
 |_,_=>.bad
def FE(σ:Nat->Ob)(n:Nat)(x:AV):AV->rq
 |.ptr id off=>KG n off id (σ id) x.cells
 |.lN id k off=>KH n k off id (σ id) x.fin
 |_=>.bad
def Uw(op:BinOp):AV->AV->rq
 |.d (.lit (.int k a)),.d (.lit (.int k' b))=>.need (Y1 op k k')<|match op with
  |.add=>.ok (.d (.lit (.int k (k.wrap (a+b))))) []
  |.sub=>.ok (.d (.lit (.int k (k.wrap (a-b))))) []
  |.mul=>.ok (.d (.lit (.int k (k.wrap (a*b))))) []
  |.quo=>.need (b≠0) (.ok (.d (.lit (.int k (k.wrap (a.tdiv b))))) [])
  |.rem=>.need (b≠0) (.ok (.d (.lit (.int k (a.tmod b)))) [])
  |.eql=>.ok (.d (bD (a==b))) []
  |.neq=>.ok (.d (bD (a != b))) []
  |.lss=>.ok (.d (bD (decide (a<b)))) []
  |.leq=>.ok (.d (bD (decide (a<=b)))) []
  |.gtr=>.ok (.d (bD (decide (b<a)))) []
  |.geq=>.ok (.d (bD (decide (b<=a)))) []
  |.and=>.ok (.d (.lit (.int k (D8 k a b)))) []
  |.or=>.ok (.d (.lit (.int k (Y3 k a b)))) []
  |.xor=>.ok (.d (.lit (.int k (Sv k a b)))) []
  |.andNot=>.ok (.d (.lit (.int k (Jw k a b)))) []
  |.shl=>.need (0<=b) (.ok (.d (.lit (.int k (R5 k a b)))) [])
  |.shr=>.need (0<=b) (.ok (.d (.lit (.int k (Hi k a b)))) [])
 |.d (.lit (.string a)),.d (.lit (.string b))=>match op with
  |.add=>.need (a.size+b.size<2^63) (.ok (.d (.lit (.string (a++b)))) [])
  |.eql=>.ok (.d (bD (a.toList==b.toList))) []
  |.neq=>.ok (.d (bD (!(a.toList==b.toList)))) []
  |_=>.bad
 |_,_=>.bad
def MV(neg:Bool):AV->AV->rq
 |.d (.lit (.bool a)),.d (.lit (.bool b))=>.ok (.d (bD (MW neg a b))) []
 |_,_=>.bad
def NL(neg:Bool):Option Bool->rq
 |some b=>.ok (.d (bD (LP neg b))) []
 |none=>.bad
def unL:UnOp->AV->rq
 |.not,.d (.lit (.bool b))=>.ok (.d (bD (!b))) []
 |.neg,.d (.lit (.int k n))=>.ok (.d (.lit (.int k (k.wrap (0-n))))) []
 |_,_=>.bad
def NB(k:IntKind):AV->rq
 |.d (.lit (.int _ n))=>.ok (.d (.lit (.int k (k.wrap n)))) []
 |_=>.bad
def OE(a b:AV):AV->rq
 |.d (.lit (.bool t))=>.br t (.ok a []) (.ok b [])
 |_=>.bad
def TZ:AV->rq
 |.ptr id off=>.ok (.ptr id off) []
 |.pv cs=>.ok (.pv cs) []
 |.fn f a b=>.ok (.fn f a b) []
 |.lN id m off=>.ok (.lN id m off) []
 |_=>.bad
def Wo(off:Nat):AV->rq
 |.ptr id o=>.ok (.ptr id (o+off)) []
 |.pv cs=>.ok (.pv (cs.drop off)) []
 |.lN id k o=>.ok (.lN id k (o+off)) []
 |_=>.bad
def JZ(e:Nat)(n:Int):Option (Nat×List D)->rq
 |some (e',xs)=>.need (e'=e/\0<=n/\n<xs.length) (.ok (.pv (iy (xs.getD n.toNat .any))) [])
 |none=>.bad
def GI(e:Nat)(n:Int):AV->rq
 |.pV e' id off len=>.need (e'=e/\0<=n/\n<len) (.ok (.ptr id (off+n.toNat*e)) [])
 |.mX e' id m=>.need (e'=e/\0<=n/\n<m) (.ok (.lN id m (n.toNat*e)) [])
 |x=>JZ e n (qR x)
def UW(e:Nat)(x:AV):Option Int->rq
 |some n=>GI e n x
 |none=>.bad
def SR(e n:Nat):Option Int->AV->rq
 |some j,.ptr id off=>.need (0<=j/\j<n) (.ok (.ptr id (off+j.toNat*e)) [])
 |some j,.pv cs=>.need (0<=j/\j<n) (.ok (.pv (cs.drop (j.toNat*e))) [])
 |_,_=>.bad
def N9:Option (Nat×List D)->rq
 |some (_,xs)=>.ok (.d (iD xs.length)) []
 |none=>.bad
def UZ:AV->rq
 |.pV _ _ _ n=>.ok (.d (iD n)) []
 |.mX _ _ n=>.ok (.d (iD n)) []
 |x=>N9 (qR x)
def KB(ρ:Operand->AV)(x:AV)(e:Nat)(lo:Option Int)(hi:Option Operand):Option (Nat×List D)->rq
 |some (e',xs)=>match lo,CU ρ xs.length hi with
  |some l,some h=>.need ((xs=[]\/e'=e)/\0<=l/\l<=h/\h<=xs.length) (.ok (.d (.sl e' (zh x) ((xs.take h.toNat).drop l.toNat))) [])
  |_,_=>.bad
 |none=>.bad
def Ua(e:Nat):Option Operand->Option Int->Option Int->Option (Nat×List D)->rq
 |none,some h,some m,some (e',xs)=>.need ((xs=[]\/e'=e)/\h=m/\0<=h/\h<=xs.length) (.ok (.Cq e' (xs.take h.toNat)) [])
 |_,_,_,_=>.bad
def YY(ρ:Operand->AV):Option Operand->Option Int
 |some h=>kC (ρ h)
 |none=>none
def LX(ρ:Operand->AV)(x:AV)(e:Nat)(lo hi:Option Operand):Option Operand->rq
 |none=>KB ρ x e (CU ρ 0 lo) hi (qR x)
 |some m=>Ua e lo (YY ρ hi) (kC (ρ m)) (qR x)
def Kz(ρ:Operand->AV)(e n:Nat):AV->Option Operand->Option Operand->Option Operand->rq
 |.ptr id off,none,none,none=>.ok (.pV e id off n) []
 |.ptr id off,none,some h,none=>match kC (ρ h)with
  |some h=>.need (0<=h/\h<=n) (.ok (.pV e id off h.toNat) [])
  |none=>.bad
 |_,_,_,_=>.bad
def MO(t e bytes:Nat)(j:Nat)(xs ys:List D)(ob:Ob):rq:=
 .need (ob=.tok t e xs.length/\(xs.length+ys.length)*bytes<=2^47) (.ok (.own e j (xs++ys)) [(j,(.tok t e (xs.length+ys.length)))])
def SA(t e bytes:Nat)(j n:Nat)(ys:List D):Ob->rq
 |.kU t' e2 m cs=>.need (t'=t/\e2=e/\m=n/\(n+ys.length)*bytes<=2^47) (.ok (.mX e j (n+ys.length)) [(j,.kU t e (n+ys.length) (cs++ys.flatMap iy))])
 |_=>.bad
def CO(σ:Nat->Ob)(id t e bytes k0:Nat)(e2:Nat)(ys:List D):AV->rq
 |.own e' j xs=>.need ((ys=[]\/e2=e)/\e'=e) (MO t e bytes j xs ys (σ j))
 |.mX e' j n=>.need ((ys=[]\/e2=e)/\e'=e) (SA t e bytes j n ys (σ j))
 |.d (.sl _ (some true) [])=>.need ((ys=[]\/e2=e)/\ys.length*bytes<=2^47/\k0<=id/\(σ id).kI=true) (.ok (.own e id ys) [(id,.tok t e ys.length)])
 |.Cq e' xs=>.need ((ys=[]\/e2=e)/\e'=e/\(xs.length+ys.length)*bytes<=2^47) (.ok (.d (.sl e none (xs++ys))) [])
 |_=>.bad
def HV(σ:Nat->Ob)(id t e bytes k0:Nat)(x:AV):Option (Nat×List D)->rq
 |some (e2,ys)=>CO σ id t e bytes k0 e2 ys x
 |none=>.bad
def ET(σ:Nat->Ob)(id t e bytes k0:Nat)(e2:Nat)(ys:List D):AV->rq
 |.d (.sl _ (some true) [])=>.need ((ys=[]\/e2=e)/\ys.length*bytes<=2^47/\k0<=id/\(σ id).kI=true) (.ok (.mX e id ys.length) [(id,.kU t e ys.length (ys.flatMap iy))])
 |x=>CO σ id t e bytes k0 e2 ys x
def F8(σ:Nat->Ob)(id t e bytes k0:Nat)(x:AV):Option (Nat×List D)->rq
 |some (e2,ys)=>ET σ id t e bytes k0 e2 ys x
 |none=>.bad
def Wn(i:Nat):AV->rq
 |.mB cs=>.need (i<cs.length) (.ok (cs.getD i .iG) [])
 |_=>.bad
def Ff(mx:Bool):AV->AV->rq
 |.d (.lit (.int k a)),.d (.lit (.int k' b))=>.need (k=k') (.ok (.d (.lit (.int k (match mx with|true=>if b>a then b else a|false=>if b<a then b else a)))) [])
 |_,_=>.bad
def Qg(σ:Nat->Ob)(id t k0:Nat):Option (List AV)->rq
 |some cs=>.need (k0<=id/\(σ id).kI=true) (.ok (.ptr id 0) [(id,.obj t cs)])
 |none=>.bad
def MY:Option (List AV)->rq
 |some cs=>.ok (AV.mk cs) []
 |none=>.bad
def Qh(σ:Nat->Ob)(id t e k0:Nat):Option (List D)->rq
 |some ds=>.need ((∀d∈ds,(iy d).length=e)/\k0<=id/\(σ id).kI=true) (.ok (.own e id ds) [(id,.tok t e ds.length)])
 |none=>.bad
def JD(σ:Nat->Ob)(id t e k0:Nat):Option (List D)->Option (List AV)->rq
 |some ds,some cs=>.need ((∀d∈ds,(iy d).length=e)/\xX cs=true/\k0<=id/\(σ id).kI=true) (.ok (.own e id ds) [(id,.oR t e ds.length cs)])
 |_,_=>.bad
def JB(σ:Nat->Ob)(id t e k0:Nat):Option (List D)->rq
 |some ds=>.need ((∀d∈ds,(iy d).length=e)/\k0<=id/\(σ id).kI=true) (.ok (.mX e id ds.length) [(id,.kU t e ds.length (ds.flatMap iy))])
 |none=>.bad
def J7(σ:Nat->Ob)(id t e bytes k0:Nat)(z:List D):Bool->Option Int->Option Int->rq
 |true,some l,some c=>.need (0<=l/\l<=c/\bytes*c<=2^48/\c<2^62/\k0<=id/\(σ id).kI=true) (.ok (.own e id []) [(id,.tok t e 0)])
 |false,some l,some c=>.need (0<=l/\l<=c/\bytes*c<=2^48/\c<2^62/\k0<=id/\(σ id).kI=true) (.ok (.pV e id 0 l.toNat) [(id,.obj t ((List.replicate l.toNat (z.map .d)).flatten))])
 |_,_,_=>.bad
def Nw(P:Program)(args:List AV):AV->rq
 |.fn f first cap=>.need (enters P f=true) (.call f (first++args++cap))
 |_=>.bad
def lF(P:Program)(k0:Nat)(ρ:Operand->AV)(σ:Nat->Ob):sH->rq
 |.mv x=>.ok (ρ x) []
 |.pick c a b=>OE (ρ a) (ρ b) (ρ c)
 |.alloc id t z=>.need (k0<=id/\(σ id).kI=true) (.ok (.ptr id 0) [(id,.obj t (z.map .d))])
 |.box id t x=>Qg σ id t k0 (ρ x).cells
 |.EY _ _ _ _=>.bad
 |.build z ps=>MY (sB ρ (z.map .d) ps)
 |.mD id t e xs=>Qh σ id t e k0 (AV.lW (xs.map ρ))
 |.zu id t e xs=>JB σ id t e k0 (AV.lW (xs.map ρ))
 |.Ea id t e xs=>JD σ id t e k0 (AV.lW (xs.map ρ)) (AV.flat e (xs.map ρ))
 |.load n ag p=>J3 σ n ag (ρ p)
 |.store n p x=>FE σ n (ρ x) (ρ p)
 |.mE x=>TZ (ρ x)
 |.bin op x y=>Uw op (ρ x) (ρ y)
 |.D_ neg x y=>MV neg (ρ x) (ρ y)
 |.uK neg x=>NL neg (zh (ρ x))
 |.un op x=>unL op (ρ x)
 |.conv k x=>NB k (ρ x)
 |.Cj f first cap=>.ok (.fn f (first.map ρ) (cap.map ρ)) []
 |.AQ _ _ _ _ _ _ _ _=>.bad
 |.zy id t e bytes z tok len cap=>J7 σ id t e bytes k0 z tok (kC (ρ len)) (kC (ρ cap))
 |.slc x e lo hi mx=>LX ρ (ρ x) e lo hi mx
 |.Fz p e n lo hi mx=>Kz ρ e n (ρ p) lo hi mx
 |.P0 off p=>Wo off (ρ p)
 |.tG e x i=>UW e (ρ x) (kC (ρ i))
 |.xu e n p i=>SR e n (kC (ρ i)) (ρ p)
 |.len x=>UZ (ρ x)
 |.app id t e bytes x y=>HV σ id t e bytes k0 (ρ x) (qR (ρ y))
 |.D9 id t e bytes x y=>F8 σ id t e bytes k0 (ρ x) (qR (ρ y))
 |.ke f args=>.call f (args.map ρ)
 |.qW g args=>Nw P (args.map ρ) (ρ g)
 |.ext x i=>Wn i (ρ x)
 |.min x y=>Ff false (ρ x) (ρ y)
 |.D3 _|.DM _ _ _|.AP _ _=>.bad
 |.dead=>.bad
def qk(s:iw):List (Nat×Ob)->iw
 |[]=>s
 |(i,ob)::r=>qk (sset s i ob) r
def rq.out(env:List AV)(s:iw):rq->Out
 |.ok x δ=>.ok x env (qk s δ)
 |.need p o=>.need p (o.out env s)
 |.br b o1 o2=>.br b (o1.out env s) (o2.out env s)
 |.call f args=>.call f args env s
 |.bad=>.bad
theorem F9{env:List AV}{d:Int}{x:Option Operand}:CU (ev env) d x=CT env d x:=by cases x<;>rfl
theorem AZ{env:List AV}:∀{ps:List (Nat×Nat×Operand)}{cs:List AV},sB (ev env) cs ps=oP env cs ps
 |[],cs=>rfl
 |(off,n,x)::r,cs=>by
  simp only[sB,oP];cases(ev env x).cells with
  |none=>rfl
  |some xs=>simp only;split<;>simp[AZ]
theorem F5{P:Program}{k0 id t e bytes:Nat}{x:AV}{Y:Option (Nat×List D)}{env:List AV}{s:iw}{K:AV->List AV->iw->Prop}(h:runK P k0 K ((HV (sat s) id t e bytes k0 x Y).out env s)):
 runK P k0 K (KS id t e bytes k0 x env s Y):=by
 have dead:∀{id:Nat},(sat s id).kI=true->sat s id=.dead:=fun{id} h=>by cases hs:sat s id<;>simp_all[Ob.kI]
 cases Y with
 |none=>exact h
 |some p=>
  obtain⟨e2,ys⟩:=p;simp only[HV,KS,CO,F4]at h⊢;split at h
  ·simp only[MO,Jy,rq.out,runK,qk]at h⊢;exact h
  ·rename_i e' j n;simp only[rq.out,runK]at h⊢;refine⟨h.1,?_⟩;have h:=h.2;generalize sat s j=X at h⊢;cases X<;>exact h
  ·simp only[rq.out,runK,qk]at h⊢;rw[dead h.1.2.2.2];exact⟨⟨h.1.1,h.1.2.1,h.1.2.2.1⟩,h.2⟩
  ·exact h
  ·exact h.elim
theorem KT{P:Program}{k0 id t e bytes:Nat}{x:AV}{Y:Option (Nat×List D)}{env:List AV}{s:iw}{K:AV->List AV->iw->Prop}(h:runK P k0 K ((F8 (sat s) id t e bytes k0 x Y).out env s)):
 runK P k0 K (CR id t e bytes k0 x env s Y):=by
 have dead:∀{id:Nat},(sat s id).kI=true->sat s id=.dead:=fun{id} h=>by cases hs:sat s id<;>simp_all[Ob.kI]
 cases Y with
 |none=>exact h
 |some p=>
  obtain⟨e2,ys⟩:=p;simp only[F8,CR]at h⊢;unfold ET at h;split at h
  ·simp only[Bq,rq.out,runK,qk]at h⊢;rw[dead h.1.2.2.2];exact⟨⟨h.1.1,h.1.2.1,h.1.2.2.1⟩,h.2⟩
  ·rename_i hn;unfold Bq;split
   ·rename_i e4;exact absurd rfl (hn e4)
   ·exact F5 (Y:=some (e2,ys)) h
theorem L8{P:Program}{k0:Nat}{m:sH}{env:List AV}{s:iw}{K:AV->List AV->iw->Prop}
 (h:runK P k0 K ((lF P k0 (ev env) (sat s) m).out env s)):runK P k0 K (kV P k0 env s m):=by
 have dead:∀{id:Nat},(sat s id).kI=true->sat s id=.dead:=fun{id} h=>by cases hs:sat s id<;>simp_all[Ob.kI]
 cases m with
 |mv x=>exact h
 |pick c a b=>
  simp only[lF,kV,OE,Kl]at h⊢;generalize ev env c=Xc at h⊢;cases Xc with
  |d x=>cases x with
   |lit u=>cases u<;>exact h
   |_=>exact h
  |_=>exact h
 |alloc id t z=>
  simp only[lF,kV,rq.out,runK,qk]at h⊢;rw[dead h.1.2];exact⟨h.1.1,h.2⟩
 |EY id d t x=>simp only[lF]at h;exact h.elim
 |box id t x=>
  simp only[lF,kV]at h⊢;generalize(ev env x).cells=X at h⊢;cases X with
  |none=>exact h
  |some cs=>
   simp only[Qg,KV,rq.out,runK,qk]at h⊢;rw[dead h.1.2];exact⟨h.1.1,h.2⟩
 |build z ps=>
  simp only[lF,kV,AZ]at h⊢;generalize oP env (z.map .d) ps=X at h⊢;cases X<;>exact h
 |mD id t e xs=>
  simp only[lF,kV]at h⊢;generalize AV.lW (xs.map (ev env))=X at h⊢;cases X with
  |none=>exact h
  |some ds=>
   simp only[Qh,Qi,rq.out,runK,qk]at h⊢;rw[dead h.1.2.2];exact⟨⟨h.1.1,h.1.2.1⟩,h.2⟩
 |Ea id t e xs=>
  simp only[lF,kV]at h⊢;generalize AV.lW (xs.map (ev env))=X at h⊢;generalize AV.flat e (xs.map (ev env))=Y at h⊢;cases X with
  |none=>cases Y<;>exact h.elim
  |some ds=>cases Y with
   |none=>exact h.elim
   |some cs=>
    simp only[JD,JE,rq.out,runK,qk]at h⊢;rw[dead h.1.2.2.2];exact⟨⟨h.1.1,h.1.2.1,h.1.2.2.1⟩,h.2⟩
 |zu id t e xs=>
  simp only[lF,kV]at h⊢;generalize AV.lW (xs.map (ev env))=X at h⊢;cases X with
  |none=>exact h
  |some ds=>
   simp only[JB,JC,rq.out,runK,qk]at h⊢;rw[dead h.1.2.2];exact⟨⟨h.1.1,h.1.2.1⟩,h.2⟩
 |load n ag p=>
  simp only[lF,kV,J3,EA]at h⊢;generalize ev env p=Xp at h⊢;cases Xp with
  |ptr id off=>simp only at h⊢;generalize sat s id=X at h⊢;cases X<;>exact h
  |lN id kk off=>simp only at h⊢;generalize sat s id=X at h⊢;cases X<;>first|exact h|exact h.elim
  |_=>exact h
 |store n p x=>
  simp only[lF,kV,FE,DR]at h⊢;generalize ev env p=Xp at h⊢;cases Xp with
  |ptr id off=>simp only at h⊢;generalize sat s id=X at h⊢;generalize(ev env x).cells=Y at h⊢;cases X<;>cases Y<;>exact h
  |lN id kk off=>simp only at h⊢;generalize sat s id=X at h⊢;generalize(ev env x).fin=Y at h⊢;cases X<;>cases Y<;>first|exact h|exact h.elim
  |_=>exact h
 |mE x=>simp only[lF,kV]at h⊢;generalize ev env x=X at h⊢;cases X<;>exact h
 |bin op x y=>
  simp only[lF,kV,Uw,Qf]at h⊢;generalize ev env x=Xx at h⊢;generalize ev env y=Xy at h⊢;cases Xx with
  |d x1=>cases x1 with
   |lit u=>cases u with
    |int k a=>cases Xy with
     |d y1=>cases y1 with
      |lit v=>cases v with
       |int k' b=>cases op<;>exact h
       |_=>exact h
      |_=>exact h
     |_=>exact h
    |string a=>cases Xy with
     |d y1=>cases y1 with
      |lit v=>cases v with
       |string b=>cases op<;>exact h
       |_=>exact h
      |_=>exact h
     |_=>exact h
    |_=>exact h
   |_=>exact h
  |_=>exact h
 |D_ neg x y=>
  simp only[lF,kV,MV,JA]at h⊢;generalize ev env x=Xx at h⊢;generalize ev env y=Xy at h⊢;cases Xx with
  |d x1=>cases x1 with
   |lit u=>cases u with
    |bool a=>cases Xy with
     |d y1=>cases y1 with
      |lit v=>cases v<;>exact h
      |_=>exact h
     |_=>exact h
    |_=>exact h
   |_=>exact h
  |_=>exact h
 |uK neg x=>simp only[lF,kV]at h⊢;generalize zh (ev env x)=X at h⊢;cases X<;>first|exact h|exact h.elim
 |un op x=>
  simp only[lF,kV,unL,Y5]at h⊢;generalize ev env x=X at h⊢;cases op<;>cases X with
  |d x1=>cases x1 with
   |lit u=>cases u<;>exact h
   |_=>exact h
  |_=>exact h
 |conv k x=>
  simp only[lF,kV,NB,JN]at h⊢;generalize ev env x=Xx at h⊢;cases Xx with
  |d x1=>cases x1 with
   |lit u=>cases u<;>exact h
   |_=>exact h
  |_=>exact h
 |Cj f first cap=>exact h
 |AQ id t e bytes z tok len cap=>simp only[lF]at h;exact h.elim
 |zy id t e bytes z tok len cap=>
  simp only[lF,kV]at h⊢;generalize kC (ev env len)=X at h⊢;generalize kC (ev env cap)=Y at h⊢;cases tok<;>cases X<;>cases Y<;>simp only[J7,J8,rq.out,runK,qk]at h⊢
  ·rw[dead h.1.2.2.2.2.2];exact⟨⟨h.1.1,h.1.2.1,h.1.2.2.1,h.1.2.2.2.1,h.1.2.2.2.2.1⟩,h.2⟩
  ·rw[dead h.1.2.2.2.2.2];exact⟨⟨h.1.1,h.1.2.1,h.1.2.2.1,h.1.2.2.2.1,h.1.2.2.2.2.1⟩,h.2⟩
 |slc x e lo hi mx=>
  simp only[lF,kV]at h⊢;cases mx with
  |some m=>
   simp only[LX,LY]at h⊢;generalize qR (ev env x)=X at h⊢;generalize kC (ev env m)=M at h⊢;cases hi with
   |none=>cases lo<;>cases M<;>cases X<;>exact h
   |some hh=>
    simp only[YY,YZ]at h⊢;generalize kC (ev env hh)=H at h⊢;cases lo<;>cases H<;>cases M<;>cases X<;>exact h
  |none=>
   simp only[LX,LY,F9]at h⊢;generalize qR (ev env x)=X at h⊢;cases X with
   |none=>exact h
   |some p=>
    simp only[KB,KC,F9]at h⊢;generalize CT env 0 lo=X at h⊢;generalize CT env p.2.length hi=Y at h⊢;cases X<;>cases Y<;>exact h
 |Fz p e n lo hi mx=>
  simp only[lF,kV,Kz,KA]at h⊢;generalize ev env p=X at h⊢;cases X<;>cases lo<;>cases hi<;>cases mx<;>first
   |exact h
   |(rename_i q;simp only at h⊢;generalize kC (ev env q)=Z at h⊢;cases Z<;>exact h)
 |P0 off p=>simp only[lF,kV]at h⊢;generalize ev env p=X at h⊢;cases X<;>exact h
 |tG e x i=>
  simp only[lF,kV]at h⊢;generalize kC (ev env i)=I at h⊢;cases I with
  |none=>exact h
  |some n=>
   simp only[UW,Q7]at h⊢;generalize ev env x=X at h⊢;cases X<;>simp only[GI,Dq]at h⊢<;>first
    |exact h
    |(revert h;generalize qR _=q;intro h;cases q<;>exact h)
 |xu e n p i=>simp only[lF,kV]at h⊢;generalize kC (ev env i)=X at h⊢;generalize ev env p=Y at h⊢;cases X<;>cases Y<;>exact h
 |len x=>
  simp only[lF,kV]at h⊢;generalize ev env x=X at h⊢;cases X<;>simp only[UZ,IL]at h⊢<;>first
   |exact h
   |(revert h;generalize qR _=q;intro h;cases q<;>exact h)
 |app id t e bytes x y=>exact F5 h
 |D9 id t e bytes x y=>exact KT h
 |ke f args=>exact h
 |qW g args=>
  simp only[lF,kV]at h⊢;generalize ev env g=X at h⊢;cases X<;>exact h
 |ext x i=>simp only[lF,kV]at h⊢;generalize ev env x=X at h⊢;cases X<;>exact h
 |min x y=>
  simp only[lF,kV,Ff,Cu]at h⊢;generalize ev env x=Xx at h⊢;generalize ev env y=Xy at h⊢;cases Xx with
  |d x1=>cases x1 with
   |lit u=>cases u with
    |int k a=>cases Xy with
     |d y1=>cases y1 with
      |lit v=>cases v<;>exact h
      |_=>exact h
     |_=>exact h
    |_=>exact h
   |_=>exact h
  |_=>exact h
 |dead=>exact h
 |_=>exact h.elim
def uC:Operand->List Nat
 |.tmp t=>[t]
 |_=>[]
def AX(xs:List Operand):List Nat:=xs.flatMap uC
def EJ:Option Operand->List Nat
 |some x=>uC x
 |none=>[]
def oO:sH->List Nat
 |.mv x|.mE x|.un _ x|.conv _ x|.P0 _ x|.len x|.ext x _|.box _ _ x|.EY _ _ _ x|.load _ _ x|.uK _ x=>uC x
 |.pick c a b=>uC c++uC a++uC b
 |.store _ p x=>uC p++uC x
 |.bin _ x y|.D_ _ x y|.min x y|.tG _ x y|.xu _ _ x y|.app _ _ _ _ x y|.D9 _ _ _ _ x y=>uC x++uC y
 |.zy _ _ _ _ _ _ l c=>uC l++uC c
 |.AQ _ _ _ _ _ _ l c=>uC l++uC c
 |.slc x _ lo hi m=>uC x++EJ lo++EJ hi++EJ m
 |.Fz x _ _ lo hi _=>uC x++EJ lo++EJ hi
 |.build _ ps=>AX (ps.map (·.2.2))
 |.mD _ _ _ xs|.zu _ _ _ xs|.Ea _ _ _ xs=>AX xs
 |.Cj _ f c=>AX f++AX c
 |.ke _ xs=>AX xs
 |.qW g xs=>uC g++AX xs
 |.D3 x=>uC x
 |.AP _ x=>uC x
 |.DM x _ h=>uC x++uC h
 |.alloc .. |.dead=>[]
def tH(ρ:Operand->AV):sH->List Nat
 |.Ea id _ _ _=>[id]
 |.load _ _ p=>match ρ p with|.ptr id _=>[id]|.lN id _ _=>[id]|_=>[]
 |.store _ p _=>match ρ p with|.ptr id _=>[id]|.lN id _ _=>[id]|_=>[]
 |.D9 id _ _ _ x _=>match ρ x with|.own _ j _=>[j]|.mX _ j _=>[j]|_=>[id]
 |.alloc id _ _|.box id _ _|.mD id _ _ _|.zu id _ _ _|.zy id _ _ _ _ _ _ _=>[id]
 |.app id _ _ _ x _=>match ρ x with|.own _ j _=>[j]|.mX _ j _=>[j]|_=>[id]
 |_=>[]
theorem CP{k0 id t e bytes:Nat}{X:AV}{p:Option (Nat×List D)}{σ σ':Nat->Ob}
 (hf:∀i∈(match X with|.own _ j _=>[j]|.mX _ j _=>[j]|_=>[id]),σ' i=σ i):HV σ' id t e bytes k0 X p=HV σ id t e bytes k0 X p:=by
 unfold HV;cases p with
 |none=>rfl
 |some p=>
  simp only;unfold CO;cases X with
  |own e' j xs=>have hj:=hf j (by simp);simp only[hj]
  |mX e' j n=>have hj:=hf j (by simp);simp only[hj]
  |d x1=>
   have hj:=hf id (by simp);cases x1 with
   |sl e1 nl xs=>cases nl with
    |none=>rfl
    |some b=>cases b<;>cases xs<;>first|rfl|simp only[hj]
   |_=>rfl
  |_=>rfl
theorem Jm{P:Program}{k0:Nat}{m:sH}{ρ ρ':Operand->AV}{σ σ':Nat->Ob}(hc:∀o:Operand,uC o=[]->ρ' o=ρ o)(hr:∀t∈oO m,ρ' (.tmp t)=ρ (.tmp t))
 (hf:∀id∈tH ρ m,σ' id=σ id):lF P k0 ρ' σ' m=lF P k0 ρ σ m:=by
 have one':∀o:Operand,(∀t∈uC o,ρ' (.tmp t)=ρ (.tmp t))->ρ' o=ρ o:=fun o h=>by
  cases o with
  |tmp t=>exact h t (by simp[uC])
  |_=>exact hc _ rfl
 have many:∀xs:List Operand,(∀t∈AX xs,ρ' (.tmp t)=ρ (.tmp t))->xs.map ρ'=xs.map ρ:=fun xs h=>
  eJ fun o ho=>one' o fun t ht=>h t (fj.2 ⟨o,ho,ht⟩)
 have opt:∀(x:Option Operand)(d:Int),(∀t∈EJ x,ρ' (.tmp t)=ρ (.tmp t))->CU ρ' d x=CU ρ d x:=fun x d h=>by
  cases x with
  |none=>rfl
  |some o=>simp only[CU];rw[one' o h]
 cases m with
 |mv x|mE x|un _ x|conv _ x|P0 _ x|len x|ext x _|uK _ x=>simp only[oO]at hr;simp only[lF];rw[one' x hr]
 |EY id d t x=>rfl
 |box id t x=>simp only[oO]at hr;simp only[tH]at hf;simp only[lF,Qg];rw[one' x hr,hf id (by simp)]
 |pick c a b=>
  simp only[oO,aF]at hr;simp only[lF];rw[one' c fun t h=>hr t (.inl (.inl h)),one' a fun t h=>hr t (.inl (.inr h)),one' b fun t h=>hr t (.inr h)]
 |alloc id t z=>simp only[tH]at hf;simp only[lF];rw[hf id (by simp)]
 |build z ps=>
  simp only[oO]at hr;simp only[lF];have:∀(ps:List (Nat×Nat×Operand))(cs:List AV),(∀t∈AX (ps.map (·.2.2)),ρ' (.tmp t)=ρ (.tmp t))->sB ρ' cs ps=sB ρ cs ps:=by
   intro ps;induction ps with
   |nil=>intro cs _;rfl
   |cons p ps ih=>
    obtain⟨off,n,x⟩:=p;intro cs h;simp only[aO,AX,cU,aF]at h;simp only[sB];rw[one' x fun t ht=>h t (.inl ht)];cases(ρ x).cells with
    |none=>rfl
    |some xs=>simp only;split<;>first|exact ih _ (fun t ht=>h t (.inr ht))|rfl
  rw[this ps _ hr]
 |mD id t e xs=>simp only[oO]at hr;simp only[tH]at hf;simp only[lF,Qh];rw[many xs hr,hf id (by simp)]
 |Ea id t e xs=>simp only[oO]at hr;simp only[tH]at hf;simp only[lF,JD];rw[many xs hr,hf id (by simp)]
 |zu id t e xs=>simp only[oO]at hr;simp only[tH]at hf;simp only[lF,JB];rw[many xs hr,hf id (by simp)]
 |load n ag p=>
  simp only[oO]at hr;simp only[tH]at hf;simp only[lF];rw[one' p hr];unfold J3;cases hp:ρ p with
  |ptr id off=>rw[hp]at hf;simp only;rw[hf id (by simp)]
  |lN id kk off=>rw[hp]at hf;simp only;rw[hf id (by simp)]
  |_=>rfl
 |store n p x=>
  simp only[oO,aF]at hr;simp only[tH]at hf;simp only[lF];rw[one' p fun t h=>hr t (.inl h),one' x fun t h=>hr t (.inr h)];unfold FE;cases hp:ρ p with
  |ptr id off=>rw[hp]at hf;simp only;rw[hf id (by simp)]
  |lN id kk off=>rw[hp]at hf;simp only;rw[hf id (by simp)]
  |_=>rfl
 |bin _ x y|D_ _ x y|min x y|tG _ x y|xu _ _ x y=>
  simp only[oO,aF]at hr;simp only[lF];rw[one' x fun t h=>hr t (.inl h),one' y fun t h=>hr t (.inr h)]
 |Cj f first cap=>
  simp only[oO,aF]at hr;simp only[lF];rw[many first fun t h=>hr t (.inl h),many cap fun t h=>hr t (.inr h)]
 |AQ id t e bytes z tok l c=>rfl
 |zy id t e bytes z tok l c=>
  simp only[oO,aF]at hr;simp only[tH]at hf;simp only[lF,J7];rw[one' l fun t h=>hr t (.inl h),one' c fun t h=>hr t (.inr h),hf id (by simp)]
 |slc x e lo hi mx=>
  simp only[oO,aF]at hr;simp only[lF];rw[one' x fun t h=>hr t (.inl (.inl (.inl h)))];cases mx with
  |some m=>
   simp only[LX];rw[one' m fun t h=>hr t (.inr h)];cases hi with
   |none=>rfl
   |some hh=>simp only[YY];rw[one' hh fun t h=>hr t (.inl (.inr h))]
  |none=>
   simp only[LX];rw[opt lo 0 fun t h=>hr t (.inl (.inl (.inr h)))];cases qR (ρ x)with
   |none=>rfl
   |some p=>simp only[KB];rw[opt hi _ fun t h=>hr t (.inl (.inr h))]
 |Fz x e n lo hi mx=>
  simp only[oO,aF]at hr;simp only[lF,Kz];rw[one' x fun t h=>hr t (.inl (.inl h))];cases ρ x<;>cases lo<;>cases hi<;>cases mx<;>first
   |rfl
   |(rename_i q;simp only;rw[one' q fun t h=>hr t (.inr h)])
 |app id t e bytes x y=>
  simp only[oO,aF]at hr;simp only[lF];rw[one' x fun t h=>hr t (.inl h),one' y fun t h=>hr t (.inr h)];exact CP hf
 |D9 id t e bytes x y=>
  simp only[oO,aF]at hr;simp only[lF];rw[one' x fun t h=>hr t (.inl h),one' y fun t h=>hr t (.inr h)];unfold F8;cases qR (ρ y)with
  |none=>rfl
  |some p=>
   simp only;have h0:CO σ' id t e bytes k0 p.1 p.2 (ρ x)=CO σ id t e bytes k0 p.1 p.2 (ρ x):=CP (p:=some p) hf;simp only[tH]at hf;cases hx:ρ x with
   |d x1=>
    rw[hx]at hf h0;have hj:=hf id (by simp);cases x1 with
    |sl e1 nl xs=>cases nl with
     |none=>exact h0
     |some b=>cases b<;>cases xs<;>first|exact h0|simp only[ET,hj]
    |_=>exact h0
   |_=>rw[hx]at h0;exact h0
 |ke f xs=>simp only[oO]at hr;simp only[lF];rw[many xs hr]
 |qW g xs=>
  simp only[oO,aF]at hr;simp only[lF];rw[one' g fun t h=>hr t (.inl h),many xs fun t h=>hr t (.inr h)]
 |dead=>rfl
 |D3 _|DM _ _ _|AP _ _=>rfl
def wJ:List (Nat×Ob)->Nat->Option Ob
 |[],_=>none
 |(i,ob)::r,id=>match wJ r id with
  |some x=>some x
  |none=>if id=i then some ob else none
theorem DI:∀(δ:List (Nat×Ob))(s:iw)(id:Nat),sat (qk s δ) id=(wJ δ id).getD (sat s id)
 |[],_,_=>rfl
 |(i,ob)::r,s,id=>by
  rw[qk,DI r,kB,wJ];cases wJ r id with
  |some x=>rfl
  |none=>by_cases h:id=i<;>simp[h]
theorem Eo:∀{δ:List (Nat×Ob)}{id:Nat},(wJ δ id).isSome=true->id∈δ.map (·.1)
 |[],_,h=>by simp[wJ]at h
 |(i,ob)::r,id,h=>by
  simp only[wJ]at h;cases hr:wJ r id with
  |some x=>exact aP _ (Eo (by rw[hr];rfl))
  |none=>
   rw[hr]at h;by_cases hi:id=i
   ·simp[hi]
   ·simp[hi]at h
def VG(σ:Nat->Ob)(pr mp:List gJ):iw:=mp.map fun(c,j)=>(c,(σ j).lq (om pr))
def GZ(t:iw)(all mp:List gJ):List (Nat×Ob):=mp.map fun(c,j)=>(j,(sat t c).lq (lX all))
theorem DJ{t:iw}{all:List gJ}:∀{mp:List gJ}{s:iw},qi s t mp all=qk s (GZ t all mp)
 |[],_=>rfl
 |(c,j)::r,s=>by simp only[qi,GZ,aO,qk];exact DJ
def SL(P:Program)(k0:Nat)(σ:Nat->Ob)(f:Nat)(args:List AV)(K:AV->List (Nat×Ob)->List Nat->Prop):Prop:=
 (∃dz:List D,iY (args.map fun x=>x.lq (om [])) (dz.map .d)/\((∃r,jW P f dz r/\K (.d r) [] [])\/∃rs:List D,qV P f dz rs/\K (.mB (rs.map .d)) [] []))\/
 ∃(pr nw:List gJ)(y:AV)(t:iw),pr.map (·.1)=List.range pr.length/\((pr++nw).map (·.1)).Nodup/\((pr++nw).map (·.2)).Nodup/\(∀p∈nw,σ p.2=.dead/\k0<=p.2)/\
  iH P f (args.map fun x=>x.lq (om pr)) (VG σ pr pr) pr.length (fun x s'=>x=y/\s'=t)/\K (y.lq (lX (pr++nw))) (GZ t (pr++nw) (pr++nw)) ((pr++nw).map (·.2))
def Ab(P:Program)(k0:Nat)(σ:Nat->Ob)(R:AV->List (Nat×Ob)->List Nat->Prop):rq->Prop
 |.ok x δ=>R x δ []
 |.need p o=>p/\Ab P k0 σ R o
 |.br b o1 o2=>if b=true then Ab P k0 σ R o1 else Ab P k0 σ R o2
 |.call f args=>SL P k0 σ f args R
 |.bad=>False
theorem AA{P:Program}{k0:Nat}{σ:Nat->Ob}{R:AV->List (Nat×Ob)->List Nat->Prop}:∀{o:rq},Ab P k0 σ R o->
 ∃x δ ex,Ab P k0 σ (fun x' δ' e'=>x'=x/\δ'=δ/\e'=ex) o/\R x δ ex
 |.ok x δ,h=>⟨x,δ,[],⟨rfl,rfl,rfl⟩,h⟩
 |.need p o,h=>by obtain⟨hp,h⟩:=h;obtain⟨x,δ,ex,h1,h2⟩:=AA h;exact⟨x,δ,ex,⟨hp,h1⟩,h2⟩
 |.br b o1 o2,h=>by
  simp only[Ab]at h⊢;split at h
  ·rename_i hb;obtain⟨x,δ,ex,h1,h2⟩:=AA h;exact⟨x,δ,ex,by rw[ah hb];exact h1,h2⟩
  ·rename_i hb;obtain⟨x,δ,ex,h1,h2⟩:=AA h;exact⟨x,δ,ex,by rw[aj hb];exact h1,h2⟩
 |.call f args,h=>by
  rcases h with⟨ds,h1,h|h⟩|⟨pr,nw,y,t,h1,h2,h3,h4,h5,h6⟩
  ·obtain⟨r,h2,h3⟩:=h;exact⟨_,_,_,.inl ⟨ds,h1,.inl ⟨r,h2,rfl,rfl,rfl⟩⟩,h3⟩
  ·obtain⟨r,h2,h3⟩:=h;exact⟨_,_,_,.inl ⟨ds,h1,.inr ⟨r,h2,rfl,rfl,rfl⟩⟩,h3⟩
  ·exact⟨_,_,_,.inr ⟨pr,nw,y,t,h1,h2,h3,h4,h5,rfl,rfl,rfl⟩,h6⟩
 |.bad,h=>h.elim
theorem xo{P:Program}{k0:Nat}{σ σ':Nat->Ob}{x:AV}{δ:List (Nat×Ob)}{ex:List Nat}(hs:∀id∈ex,σ' id=σ id):∀{o:rq},
 Ab P k0 σ (fun x' δ' e'=>x'=x/\δ'=δ/\e'=ex) o->Ab P k0 σ' (fun x' δ' e'=>x'=x/\δ'=δ/\e'=ex) o
 |.ok x δ,h=>h
 |.need p o,h=>⟨h.1,xo hs h.2⟩
 |.br b o1 o2,h=>by
  simp only[Ab]at h⊢;split at h
  ·rename_i hb;rw[ah hb];exact xo hs h
  ·rename_i hb;rw[aj hb];exact xo hs h
 |.call f args,h=>by
  rcases h with h|⟨pr,nw,y,t,h1,h2,h3,h4,h5,h6,h7,h8⟩
  ·exact .inl h
  ·subst h8;refine .inr ⟨pr,nw,y,t,h1,h2,h3,fun p hp=>?_,?_,h6,h7,rfl⟩
   ·rw[hs p.2 (bq.2 ⟨p,bp _ hp,rfl⟩)];exact h4 p hp
   ·have:VG σ' pr pr=VG σ pr pr:=eJ fun p hp=>by
     show(p.1,(σ' p.2).lq (om pr))=(p.1,(σ p.2).lq (om pr));rw[hs p.2 (bq.2 ⟨p,aZ _ hp,rfl⟩)]
    rw[this];exact h5
 |.bad,h=>h.elim
theorem y_{P:Program}{k0:Nat}{R:AV->List (Nat×Ob)->List Nat->Prop}{K:AV->List AV->iw->Prop}{env:List AV}{s:iw}
 (hK:∀x δ ex,R x δ ex->K x env (qk s δ)):∀{o:rq},Ab P k0 (sat s) R o->runK P k0 K (o.out env s)
 |.ok x δ,h=>hK x δ _ h
 |.need p o,h=>⟨h.1,y_ hK h.2⟩
 |.br b o1 o2,h=>by
  simp only[Ab]at h;simp only[rq.out,runK];split at h
  ·rename_i hb;rw[ah hb];exact y_ hK h
  ·rename_i hb;rw[aj hb];exact y_ hK h
 |.call f args,h=>by
  rcases h with⟨ds,h1,h|h⟩|⟨pr,nw,y,t,h1,h2,h3,h4,h5,h6⟩
  ·obtain⟨r,h2,h3⟩:=h;exact yX (Gd h1 h2 (hK _ _ _ h3))
  ·obtain⟨r,h2,h3⟩:=h;exact yX (En h1 h2 (hK _ _ _ h3))
  ·refine yX ⟨pr,nw,_,h1,h2,h3,h4,h5,?_⟩;rintro x s' ⟨rfl,rfl⟩;rw[DJ];exact hK _ _ _ h6
 |.bad,h=>h.elim
def gd(m:iO)(env:List AV):Option Bool:=match m.guard with
 |none=>some true
 |some (none,_)=>none
 |some (some d,want)=>match env.getD d .iG with
  |.d (.lit (.bool b))=>some (b==want)
  |.mB []=>some false
  |_=>none
def vz(P:Program)(k0:Nat)(F:List (List Nat×List Nat)->List AV->iw->Prop):List iO->List (List Nat×List Nat)->List AV->iw->Prop
 |[],acc,env,s=>F acc env s
 |m::ms,acc,env,s=>match gd m env with
  |none=>False
  |some true=>Ab P k0 (sat s) (fun x δ ex=>vz P k0 F ms ((ex++tH (ev env) m.op,δ.map (·.1))::acc) (iZ m.dst env x) (qk s δ)) (lF P k0 (ev env) (sat s) m.op)
  |some false=>vz P k0 F ms (([],[])::acc) (iZ m.dst env (.mB [])) s
def MJ(P:Program)(k0:Nat)(m:iO)(env:List AV)(s:iw)(x:AV)(δ:List (Nat×Ob))(ft:List Nat×List Nat):Prop:=
 (gd m env=some true/\∃ex,Ab P k0 (sat s) (fun x' δ' e'=>x'=x/\δ'=δ/\e'=ex) (lF P k0 (ev env) (sat s) m.op)/\ft=(ex++tH (ev env) m.op,δ.map (·.1)))\/
 (gd m env=some false/\x=.mB []/\δ=[]/\ft=([],[]))
def Up(P:Program)(k0:Nat)(F:List (List Nat×List Nat)->List AV->iw->Prop)(ms:List iO)(acc:List (List Nat×List Nat))(env:List AV)(s:iw):Prop:=
 ∃(x:Nat->AV)(δ:Nat->List (Nat×Ob))(ft:Nat->List Nat×List Nat)(E:Nat->List AV)(S:Nat->iw),E 0=env/\S 0=s/\
  (∀i m,ms[i]?=some m->MJ P k0 m (E i) (S i) (x i) (δ i) (ft i)/\E (i+1)=iZ m.dst (E i) (x i)/\S (i+1)=qk (S i) (δ i))/\
  F (((List.range ms.length).map ft).reverse++acc) (E ms.length) (S ms.length)
theorem Up.cons{P:Program}{k0:Nat}{F:List (List Nat×List Nat)->List AV->iw->Prop}{m:iO}{ms:List iO}{acc:List (List Nat×List Nat)}{env:List AV}{s:iw}
 {x0:AV} {δ0:List (Nat×Ob)} {f0:List Nat×List Nat} (hs:MJ P k0 m env s x0 δ0 f0) (h:Up P k0 F ms (f0::acc) (iZ m.dst env x0) (qk s δ0)):Up P k0 F (m::ms) acc env s:=by
 obtain⟨x,δ,ft,E,S,hE,hS,h1,h2⟩:=h;refine⟨fun i=>Nat.casesOn i x0 x,fun i=>Nat.casesOn i δ0 δ,fun i=>Nat.casesOn i f0 ft,fun i=>Nat.casesOn i env E,fun i=>Nat.casesOn i s S,rfl,rfl,fun i m' hi=>?_,?_⟩
 ·cases i with
  |zero=>
   simp only[List.getElem?_cons_zero,aL]at hi;subst hi;exact⟨hs,hE,hS⟩
  |succ i=>exact h1 i m' (by simpa using hi)
 ·have:((List.range (m::ms).length).map fun i=>(Nat.casesOn i f0 ft:List Nat×List Nat)).reverse++acc=((List.range ms.length).map ft).reverse++(f0::acc):=by
   rw[aJ,List.range_succ_eq_map,aO,eS,List.reverse_cons,aH];rfl
  rw[this];exact h2
theorem zj{P:Program}{k0:Nat}{F:List (List Nat×List Nat)->List AV->iw->Prop}:∀{ms:List iO}{acc:List (List Nat×List Nat)}{env:List AV}{s:iw},
 vz P k0 F ms acc env s->Up P k0 F ms acc env s
 |[],acc,env,s,h=>⟨fun _=>.iG,fun _=>[],fun _=>([],[]),fun _=>env,fun _=>s,rfl,rfl,fun i m hi=>by simp at hi,h⟩
 |m::ms,acc,env,s,h=>by
  simp only[vz]at h;split at h
  ·exact h.elim
  ·rename_i hg;obtain⟨x0,δ0,ex,h1,h2⟩:=AA h;exact Up.cons (.inl ⟨hg,ex,h1,rfl⟩) (zj h2)
  ·rename_i hg;exact Up.cons (x0:=.mB []) (δ0:=[]) (.inr ⟨hg,rfl,rfl,rfl⟩) (zj h)
def gl{β:Type}(f:Nat->Option β)(L:Nat->Bool)(b:β):Nat->β
 |0=>b
 |n+1=>if L n=true then(f n).getD (gl f L b n)else gl f L b n
theorem ud{β:Type}{f:Nat->Option β}{L L':Nat->Bool}{b:β}:∀{n:Nat},(∀j,j<n->(f j).isSome=true->L j=L' j)->gl f L b n=gl f L' b n
 |0,_=>rfl
 |n+1,h=>by
  have ih:=ud (b:=b) (n:=n) fun j hj=>h j h_
  simp only[gl];rw[ih];cases hf:f n with
  |none=>simp
  |some v=>rw[h n h_ (by rw[hf];rfl)]
theorem Iy{β:Type}{f:Nat->Option β}{L:Nat->Bool}{b v:β}{i:Nat}(hf:f i=some v)(hL:L i=true):
 ∀{n:Nat},i<n->(∀j,i<j->j<n->(f j).isSome=true->L j=false)->gl f L b n=v
 |0,hi,_=>by omega
 |n+1,hi,h=>by
  simp only[gl];by_cases hin:i=n
  ·subst hin;rw[ah hL,hf];rfl
  ·have ih:=Iy (b:=b) hf hL (n:=n) h_ fun j h1 h2=>h j h1 h_
   cases hn:f n with
   |none=>simp[ih]
   |some u=>rw[h n h_ h_ (by rw[hn];rfl)];simpa using ih
theorem BD{β:Type}{f:Nat->Option β}{b:β}{i:Nat}:∀{n:Nat},i<=n->gl f (fun j=>decide (j<i)) b n=gl f (fun _=>true) b i
 |0,h=>by
  have:i=0:=by omega
  subst this;rfl
 |n+1,h=>by
  by_cases hi:i=n+1
  ·subst hi;exact ud fun j hj _=>by simp[hj]
  ·simp only[gl];rw[aj (by simp;omega)];exact BD h_
def YD(m:iO):List Nat:=oO m.op++(match m.guard with|some (some g,_)=>[g]|_=>[])
def BE(xs ys:List Nat):Bool:=xs.any fun x=>ys.contains x
def BX(m m':iO)(f f':List Nat×List Nat):Bool:=
 BE m'.dst.toList (YD m)||BE m.dst.toList (YD m')||BE m.dst.toList m'.dst.toList||BE f.2 f'.1||BE f'.2 f.1||BE f.2 f'.2
def Gf(after:List gT):List gT:=after.foldl (fun T a=>T++[(a++a.flatMap fun e=>T.getD e []).eraseDups]) []
def wI(after B:List gT):Bool:=
 ((List.range after.length).all fun i=>(after.getD i []).all fun e=>decide (e<i))&&
 (List.range B.length).all fun i=>(B.getD i []).all fun j=>(after.getD i []).contains j||(after.getD i []).any fun e=>decide (e<i)&&(B.getD e []).contains j
def T5(ms:List iO)(B:List gT)(fts:List (List Nat×List Nat)):Bool:=
 (List.range ms.length).all fun i=>(List.range i).all fun j=>match ms[i]?,ms[j]? with
  |some m,some m'=>!BX m m' (fts.getD i ([],[])) (fts.getD j ([],[]))||(B.getD i []).contains j
  |_,_=>false
def vh(ms:List iO)(after:List gT)(fts:List (List Nat×List Nat)):Bool:=wI after (Gf after)&&T5 ms (Gf after) fts
theorem yj{after B:List gT}(h:wI after B=true){L:Nat->Bool}(hL:∀i,L i=true->∀e∈after.getD i [],L e=true):
 ∀(i:Nat),(∀e∈after.getD i [],L e=true)->∀j∈B.getD i [],L j=true:=by
 simp only[wI,a_,bN,b_,fB,dj,av,List.contains_iff_mem]at h;intro i;induction i using Nat.strongRecOn with
 |ind i ih=>
  intro ha j hj;have hi:i<B.length:=by
   rcases cF i B.length with h'|h'
   ·exact h'
   ·rw[List.getD_eq_getElem?_getD,bH h']at hj;simp at hj
  rcases h.2 i hi j hj with h1|⟨e,he,hlt,hje⟩
  ·exact ha j h1
  ·exact ih e hlt (hL e (ha e he)) j hje
def Jk(L:Nat->Bool):Nat->Nat
 |0=>0
 |n+1=>Jk L n+(match L n with|true=>0|false=>1)
theorem FH{L L':Nat->Bool}{i:Nat}(h1:L i=false)(h2:L' i=true)(h:∀j,j≠i->L' j=L j):∀{n:Nat},(n<=i->Jk L' n=Jk L n)/\(i<n->Jk L' n+1=Jk L n)
 |0=>⟨fun _=>rfl,fun h=>by omega⟩
 |n+1=>by
  obtain⟨ih1,ih2⟩:=FH (n:=n) h1 h2 h;refine⟨fun hn=>?_,fun hn=>?_⟩
  ·simp only[Jk];rw[ih1 h_,h n h_]
  ·simp only[Jk];by_cases hin:n=i
   ·subst hin;rw[ih1 h_,h1,h2];simp
   ·rw[h n hin];have:=ih2 h_;omega
theorem DV{L:Nat->Bool}:∀{n:Nat},Jk L n=0->∀j,j<n->L j=true
 |0,_,j,hj=>by omega
 |n+1,h,j,hj=>by
  simp only[Jk]at h;by_cases hn:j=n
  ·subst hn;cases hL:L j with
   |true=>rfl
   |false=>rw[hL]at h;simp at h
  ·exact DV (n:=n) h_ j h_
def fs(d:Nat->Option Nat)(x:Nat->AV)(t:Nat)(j:Nat):Option AV:=if d j=some t then some (x j)else none
theorem Ex{d:Option Nat}{env:List AV}{x:AV}{t:Nat}(ht:t<env.length):(iZ d env x).getD t .iG=if d=some t then x else env.getD t .iG:=by
 cases d with
 |none=>simp[iZ]
 |some d=>
  simp only[iZ,List.getD_eq_getElem?_getD,dQ,aL];by_cases h:d=t
  ·subst h;simp[ht]
  ·simp[h]
theorem B1{d:Option Nat}{env:List AV}{x:AV}:(iZ d env x).length=env.length:=by cases d<;>simp[iZ]
structure qU(P:Program)(k0:Nat)(ms:List iO)(after:List gT)(x:Nat->AV)(δ:Nat->List (Nat×Ob))(ft:Nat->List Nat×List Nat)
 (E:Nat->List AV) (S:Nat->iw):Prop where
 step:∀i m,ms[i]?=some m->MJ P k0 m (E i) (S i) (x i) (δ i) (ft i)/\E (i+1)=iZ m.dst (E i) (x i)/\S (i+1)=qk (S i) (δ i)
 ok:vh ms after ((List.range ms.length).map ft)=true
def Er(ms:List iO)(j:Nat):Option Nat:=(ms[j]?).bind (·.dst)
section
variable{P:Program}{k0:Nat}{ms:List iO}{after:List gT}{x:Nat->AV}{δ:Nat->List (Nat×Ob)}{ft:Nat->List Nat×List Nat}
 {E:Nat->List AV} {S:Nat->iw}
theorem qU.len(h:qU P k0 ms after x δ ft E S):∀{i:Nat},i<=ms.length->(E i).length=(E 0).length
 |0,_=>rfl
 |i+1,hi=>by
  have hm:ms[i]?=some ms[i]:=az h_;rw[(h.step i _ hm).2.1,B1,h.len h_]
theorem qU.slot(h:qU P k0 ms after x δ ft E S){t:Nat}(ht:t<(E 0).length):∀{i:Nat},i<=ms.length->
 (E i).getD t .iG=gl (fs (Er ms) x t) (fun _=>true) ((E 0).getD t .iG) i
 |0,_=>rfl
 |i+1,hi=>by
  have hm:ms[i]?=some ms[i]:=az h_;rw[(h.step i _ hm).2.1,Ex (by rw[h.len h_];exact ht),h.slot ht h_];simp only[gl,aC,fs,Er,hm,aa];split<;>rfl
theorem qU.obj(h:qU P k0 ms after x δ ft E S)(id:Nat):∀{i:Nat},i<=ms.length->
 sat (S i) id=gl (fun j=>wJ (δ j) id) (fun _=>true) (sat (S 0) id) i
 |0,_=>rfl
 |i+1,hi=>by
  have hm:ms[i]?=some ms[i]:=az h_;rw[(h.step i _ hm).2.2,DI,h.obj id h_];simp only[gl,aC]
structure B_(E:Nat->List AV)(S:Nat->iw)(ms:List iO)(x:Nat->AV)(δ:Nat->List (Nat×Ob))(L:Nat->Bool)(env:List AV)(s:iw):Prop where
 len:env.length=(E 0).length
 slot:∀t,t<(E 0).length->env.getD t .iG=gl (fs (Er ms) x t) L ((E 0).getD t .iG) ms.length
 obj:∀id,sat s id=gl (fun j=>wJ (δ j) id) L (sat (S 0) id) ms.length
theorem qU.ord(h:qU P k0 ms after x δ ft E S){i j:Nat}{m m':iO}(hi:ms[i]?=some m)(hj:ms[j]?=some m')(hji:j<i)
 (hc:BX m m' (ft i) (ft j)=true):j∈(Gf after).getD i []:=by
 have hl:i<ms.length:=(aN.1 hi).1;have:=h.ok;simp only[vh,a_,T5,bN,b_]at this;have:=this.2 i hl j hji;rw[hi,hj]at this;have e1:((List.range ms.length).map ft).getD i ([],[])=ft i:=by simp[List.getD_eq_getElem?_getD,hl]
 have e2:((List.range ms.length).map ft).getD j ([],[])=ft j:=by simp[List.getD_eq_getElem?_getD,show j<ms.length by omega]
 rw[e1,e2]at this;simpa[hc]using this
theorem qU.before(h:qU P k0 ms after x δ ft E S){L:Nat->Bool}(hL:∀i,L i=true->∀e∈after.getD i [],L e=true){i:Nat}{m:iO}(hi:ms[i]?=some m)
 (hu:L i=false) (hr:∀e∈after.getD i [],L e=true) {j:Nat} {m':iO} (hj:ms[j]?=some m') (hne:j≠i) (hc:BX m m' (ft i) (ft j)=true/\BX m' m (ft j) (ft i)=true):
 L j=decide (j<i):=by
 have hcl:=h.ok;simp only[vh,a_]at hcl;rcases cF j i with hlt|hge
 ·rw[yj hcl.1 hL i hr j (h.ord hi hj hlt hc.1)];simp[hlt]
 ·have hlt:i<j:=by omega
  have hb:=h.ord hj hi hlt hc.2;cases hLj:L j with
  |false=>simp;omega
  |true=>
   have:=yj hcl.1 hL j (hL j hLj) i hb;rw[hu]at this;cases this
theorem zb{xs ys:List Nat}{a:Nat}(h1:a∈xs)(h2:a∈ys):BE xs ys=true:=dj.2 ⟨a,h1,by simpa using h2⟩
theorem Iq{j t:Nat}(h:(fs (Er ms) x t j).isSome=true):∃m',ms[j]?=some m'/\m'.dst=some t:=by
 unfold fs at h;split at h
 ·rename_i hd;unfold Er at hd;cases hm:ms[j]? with
  |none=>rw[hm]at hd;cases hd
  |some m'=>rw[hm]at hd;exact⟨m',rfl,hd⟩
 ·cases h
theorem qU.write(h:qU P k0 ms after x δ ft E S){j id:Nat}{m':iO}(hj:ms[j]?=some m')(hw:(wJ (δ j) id).isSome=true):id∈(ft j).2:=by
 have:=(h.step j m' hj).1;rcases this with⟨_,_,_,h3⟩|⟨_,_,h3,_⟩
 ·rw[h3];exact Eo hw
 ·rw[h3]at hw;cases hw
theorem qU.reads(h:qU P k0 ms after x δ ft E S){L:Nat->Bool}(hL:∀i,L i=true->∀e∈after.getD i [],L e=true){i:Nat}{m:iO}(hi:ms[i]?=some m)
 (hu:L i=false) (hr:∀e∈after.getD i [],L e=true) {env:List AV} {s:iw} (hb:B_ E S ms x δ L env s) {t:Nat} (ht:t∈YD m):env.getD t .iG=(E i).getD t .iG:=by
 have hil:i<ms.length:=(aN.1 hi).1;by_cases hlt:t<(E 0).length
 ·rw[hb.slot t hlt,h.slot hlt (i:=i) h_,<-BD (Nat.le_of_lt hil)];refine ud fun j hj hs=>?_
  by_cases hne:j=i
  ·subst hne;rw[hu];simp
  ·obtain⟨m',hm',hd⟩:=Iq hs;refine h.before hL hi hu hr hm' hne ?_;have:BE m'.dst.toList (YD m)=true:=zb (a:=t) (by rw[hd];simp) ht;simp[BX,this]
 ·have e1:env.getD t .iG=.iG:=by rw[List.getD_eq_getElem?_getD,bH (by rw[hb.len];omega)];rfl
  have e2:(E i).getD t .iG=.iG:=by rw[List.getD_eq_getElem?_getD,bH (by rw[h.len h_];omega)];rfl
  rw[e1,e2]
theorem qU.looks(h:qU P k0 ms after x δ ft E S){L:Nat->Bool}(hL:∀i,L i=true->∀e∈after.getD i [],L e=true){i:Nat}{m:iO}(hi:ms[i]?=some m)
 (hu:L i=false) (hr:∀e∈after.getD i [],L e=true) {env:List AV} {s:iw} (hb:B_ E S ms x δ L env s) {id:Nat} (hid:id∈(ft i).1):sat s id=sat (S i) id:=by
 have hil:i<ms.length:=(aN.1 hi).1;rw[hb.obj id,h.obj id (i:=i) h_,<-BD (Nat.le_of_lt hil)];refine ud fun j hj hs=>?_
 by_cases hne:j=i
 ·subst hne;rw[hu];simp
 ·have hm':ms[j]?=some ms[j]:=az hj;refine h.before hL hi hu hr hm' hne ?_;have:BE (ft j).2 (ft i).1=true:=zb (a:=id) (h.write hm' hs) hid;simp[BX,this]
theorem qU.next(h:qU P k0 ms after x δ ft E S){L L':Nat->Bool}(hL:∀i,L i=true->∀e∈after.getD i [],L e=true){i:Nat}{m:iO}(hi:ms[i]?=some m)
 (hu:L i=false) (hr:∀e∈after.getD i [],L e=true) (hi':L' i=true) (hn:∀j,j≠i->L' j=L j) {env:List AV} {s:iw} (hb:B_ E S ms x δ L env s):
 B_ E S ms x δ L' (iZ m.dst env (x i)) (qk s (δ i)):=by
 have hil:i<ms.length:=(aN.1 hi).1;refine⟨by rw[B1,hb.len],fun t ht=>?_,fun id=>?_⟩
 ·rw[Ex (by rw[hb.len];exact ht)];split
  ·rename_i hd;refine(Iy (i:=i) (by simp[fs,Er,hi,hd]) hi' hil fun j hij hj hs=>?_).symm;obtain⟨m',hm',hd'⟩:=Iq hs;have:BE m.dst.toList m'.dst.toList=true:=zb (a:=t) (by rw[hd];simp) (by rw[hd'];simp);have this':BE m'.dst.toList m.dst.toList=true:=zb (a:=t) (by rw[hd'];simp) (by rw[hd];simp);rw[hn j h_,h.before hL hi hu hr hm' h_ (by simp[BX,this,this'])];simp;omega
  ·rename_i hd;rw[hb.slot t ht];refine ud fun j hj hs=>?_
   by_cases hne:j=i
   ·subst hne;obtain⟨m',hm',hd'⟩:=Iq hs;rw[hi]at hm';cases hm';exact absurd hd' hd
   ·rw[hn j hne]
 ·rw[DI];cases hd:wJ (δ i) id with
  |some ob=>
   refine(Iy (i:=i) hd hi' hil fun j hij hj hs=>?_).symm;have hm':ms[j]?=some ms[j]:=az hj;have a1:=h.write hm' hs;have a2:=h.write hi (by rw[hd];rfl:(wJ (δ i) id).isSome=true);have:BE (ft i).2 (ft j).2=true:=zb a2 a1;have this':BE (ft j).2 (ft i).2=true:=zb a1 a2;rw[hn j h_,h.before hL hi hu hr hm' h_ (by simp[BX,this,this'])];simp;omega
  |none=>
   simp only[Option.getD_none];rw[hb.obj id];refine ud fun j hj hs=>?_
   by_cases hne:j=i
   ·subst hne;rw[hd]at hs;cases hs
   ·rw[hn j hne]
theorem qU.run(h:qU P k0 ms after x δ ft E S){L:Nat->Bool}(hL:∀i,L i=true->∀e∈after.getD i [],L e=true){i:Nat}{m:iO}(hi:ms[i]?=some m)
 (hu:L i=false) (hr:∀e∈after.getD i [],L e=true) {env:List AV} {s:iw} (hb:B_ E S ms x δ L env s):
 match m.guard with
  |none=>qT P k0 m.op env s fun x' env' s'=>iZ m.dst env' x'=iZ m.dst env (x i)/\s'=qk s (δ i)
  |some (g,want)=>match g with
   |none=>iZ m.dst env (.mB [])=iZ m.dst env (x i)/\s=qk s (δ i)
   |some d=>match env.getD d .iG with
    |.d (.lit (.bool b))=>Br b want (qT P k0 m.op env s fun x' env' s'=>iZ m.dst env' x'=iZ m.dst env (x i)/\s'=qk s (δ i)) (iZ m.dst env (.mB [])=iZ m.dst env (x i)/\s=qk s (δ i))
    |.mB []=>iZ m.dst env (.mB [])=iZ m.dst env (x i)/\s=qk s (δ i)
    |_=>False:=by
 have hs:=(h.step i m hi).1;have run:(∃ex,Ab P k0 (sat (S i)) (fun x' δ' e'=>x'=x i/\δ'=δ i/\e'=ex) (lF P k0 (ev (E i)) (sat (S i)) m.op)/\ft i=(ex++tH (ev (E i)) m.op,(δ i).map (·.1)))->
  qT P k0 m.op env s fun x' env' s'=>iZ m.dst env' x'=iZ m.dst env (x i)/\s'=qk s (δ i):=fun⟨ex,hd,hf⟩=>by
  have hc:lF P k0 (ev env) (sat s) m.op=lF P k0 (ev (E i)) (sat (S i)) m.op:=by
   refine Jm (fun o ho=>?_) (fun t ht=>?_) (fun id hid=>?_)
   ·cases o with
    |tmp t=>simp[uC]at ho
    |_=>rfl
   ·simpa only[ev]using h.reads hL hi hu hr hb (t:=t) (aZ _ ht)
   ·exact h.looks hL hi hu hr hb (by rw[hf];exact bp _ hid)
  rw[<-hc]at hd;replace hd:=xo (σ':=sat s) (fun id hid=>h.looks hL hi hu hr hb (by rw[hf];exact aZ _ hid)) hd;exact HC (L8 (y_ (K:=fun x' env' s'=>iZ m.dst env' x'=iZ m.dst env (x i)/\s'=qk s (δ i)) (fun x' δ' e' hx=>by
   obtain⟨rfl,rfl,_⟩:=hx;exact⟨rfl,rfl⟩) hd))
 cases hg:m.guard with
 |none=>
  rcases hs with⟨_,h2⟩|⟨h1,_⟩
  ·exact run h2
  ·simp[gd,hg]at h1
 |some p=>
  obtain⟨g,want⟩:=p;cases g with
  |none=>rcases hs with⟨h1,_⟩|⟨h1,_⟩<;>simp[gd,hg]at h1
  |some d=>
   have he:env.getD d .iG=(E i).getD d .iG:=h.reads hL hi hu hr hb (by simp[YD,hg]);simp only;rw[he];have hgd:gd m (E i)=(match(E i).getD d .iG with|.d (.lit (.bool b))=>some (b==want)|.mB []=>some false|_=>none):=by simp only[gd,hg]
   rcases hs with⟨h1,h2⟩|⟨h1,h2,h3,_⟩
   ·rw[hgd]at h1;split at h1
    ·rename_i b hb';simp only[aL,bw]at h1;simp only[Br,ah h1];exact run h2
    ·cases h1
    ·cases h1
   ·rw[hgd]at h1;split at h1
    ·rename_i b hb';simp only[aL,bW,gm]at h1;simp only[Br,aj h1];rw[h2,h3];exact⟨rfl,rfl⟩
    ·rw[h2,h3];exact⟨rfl,rfl⟩
    ·cases h1
end
theorem EF{P:Program}{c:Code}{ms:List iO}{after:List gT}(h:mT P c=some (.draw ms after)):
 ∃id ops,c=.region id ops true/\ops.toList.mapM (pU P ops)=some ms/\after=ops.toList.map fun o=>(o.after.toList.filter (Region.binds .any)).map (·.on):=by
 cases c<;>simp[mT,aq,ay]at h⊢
 case region id' ops' d'=>
  obtain⟨ms',h1,h⟩:=h;split at h
  ·rename_i hd;simp only[ir.draw.injEq]at h;obtain⟨rfl,rfl⟩:=h;exact⟨id',ops',⟨rfl,rfl,hd⟩,h1,rfl⟩
  ·cases h
theorem wS{α β:Type}{f:α->Option β}:∀{xs:List α}{ys:List β},xs.mapM f=some ys->ys.length=xs.length/\∀(i:Nat)(x:α),xs[i]?=some x->∃y,ys[i]?=some y/\f x=some y
 |[],ys,h=>by simp at h;subst h;simp
 |x::xs,ys,h=>by
  simp only[cq,cm,aq]at h;obtain⟨y,h1,ys',h2,h3⟩:=h;cases h3;obtain⟨e1,e2⟩:=wS h2;refine⟨by simp[e1],fun i u hu=>?_⟩;cases i with
  |zero=>simp at hu;subst hu;exact⟨y,rfl,h1⟩
  |succ i=>simpa using e2 i u (by simpa using hu)
theorem B_.env{E:Nat->List AV}{S:Nat->iw}{ms:List iO}{x:Nat->AV}{δ:Nat->List (Nat×Ob)}{L L':Nat->Bool}{env:List AV}{s:iw}
 (h:B_ E S ms x δ L env s) (hL:∀j,j<ms.length->L j=L' j):B_ E S ms x δ L' env s:=
 ⟨h.len,fun t ht=>by rw[h.slot t ht];exact ud fun j hj _=>hL j hj,fun id=>by rw[h.obj id];exact ud fun j hj _=>hL j hj⟩
theorem Gk{P:Program}{C:Ctx}{ops:Array Oper}{Q:Post}{ms:List iO}{after:List gT}{x:Nat->AV}{δ:Nat->List (Nat×Ob)}{ft:Nat->List Nat×List Nat}
 {E:Nat->List AV} {S:Nat->iw} (hm:ops.toList.mapM (pU P ops)=some (ms.map iO.erase)) (ha:after=ops.toList.map fun o=>(o.after.toList.filter (Region.binds .any)).map (·.on))
 (h:qU P C.k ms after x δ ft E S) (hQ:Q .normal (E ms.length) (S ms.length)):
 ∀(fuel:Nat)(listed:Array Bool)(env:List AV)(s:iw)(β:iE)(a:Act)(w:World),listed.size=ops.size->Jk (fun j=>listed.getD j false) ops.size<=fuel->
  (∀i,listed.getD i false=true->∀e∈after.getD i [],listed.getD e false=true)->B_ E S ms x δ (fun j=>listed.getD j false) env s->St C β env s a w->
  wpAnyIn C.oh 0 P .any ops (fun e a' w'=>∃C',Ext C C'/\∃β' env' s',St C' β' env' s' a' w'/\Q e env' s') fuel listed a w:=by
 obtain⟨hlen,hget⟩:=wS hm;rw[aT]at hlen;have hsz:ms.length=ops.size:=by rw[hlen];simp
 have haf:∀i o,ops[i]?=some o->after.getD i []=(o.after.toList.filter (Region.binds .any)).map (·.on):=fun i o ho=>by rw[ha,List.getD_eq_getElem?_getD,bz,Array.getElem?_toList,ho];rfl
 have hback:∀i,∀e∈after.getD i [],e<i:=fun i e he=>by
  have hc:=h.ok;simp only[vh,wI,a_,bN,b_,av]at hc;have hi:i<after.length:=by
   rcases cF i after.length with h'|h'
   ·exact h'
   ·rw[List.getD_eq_getElem?_getD,bH h']at he;simp at he
  exact hc.1.1 i hi e he
 have isReady:∀{listed:Array Bool},listed.size=ops.size->∀{i:Nat},i<ops.size->listed.getD i false=false->(∀e∈after.getD i [],listed.getD e false=true)->
  i∈Region.ready .any ops listed:=fun{listed} hs {i} hi hu hr=>by
  rw[fL];have ho:ops[i]?=some ops[i]:=cH hi;refine⟨?_,_,ho,fun e he hb=>hr _ ?_⟩
  ·have:i<listed.size:=by omega
   simpa[this]using hu
  ·rw[haf i _ ho];exact bq.2 ⟨e,dx.2 ⟨by simpa using he,hb⟩,rfl⟩
 have all:∀{listed:Array Bool},listed.size=ops.size->Region.ready .any ops listed=[]->∀i,i<ops.size->listed.getD i false=true:=fun{listed} hs hn i=>by
  induction i using Nat.strongRecOn with
  |ind i ih=>
   intro hi;cases hu:listed.getD i false with
   |true=>rfl
   |false=>
    have:=isReady hs hi hu fun e he=>ih e (hback i e he) (by have:=hback i e he;omega)
    rw[hn]at this;cases this
 have done:∀{listed:Array Bool}{env:List AV}{s:iw}{β:iE}{a:Act}{w:World},(∀i,i<ops.size->listed.getD i false=true)->
  B_ E S ms x δ (fun j=>listed.getD j false) env s->St C β env s a w->∃C',Ext C C'/\∃β' env' s',St C' β' env' s' a w/\Q .normal env' s':=fun{listed env s β a w} hall hb hst=>by
  have hb':=hb.env (L':=fun _=>true) fun j hj=>hall j h_
  have e1:env=E ms.length:=by
   refine ek fun t=>?_
   by_cases ht:t<(E 0).length
   ·have h1:=hb'.slot t ht;rw[<-h.slot ht (aA _)]at h1;have l1:t<env.length:=by rw[hb'.len];exact ht
    have l2:t<(E ms.length).length:=by rw[h.len (aA _)];exact ht
    rw[List.getD_eq_getElem?_getD,List.getD_eq_getElem?_getD,az l1,az l2]at h1;rw[az l1,az l2];simpa using h1
   ·rw[bH (by rw[hb'.len];omega),bH (by rw[h.len (aA _)];omega)]
  have e2:∀id,sat s id=sat (S ms.length) id:=fun id=>by rw[hb'.obj id,<-h.obj id (aA _)]
  rw[<-e1]at hQ;obtain⟨β',h1⟩:=iV.Uc (k:=C.k) (env:=env) e2 C β a w rfl hst;exact⟨C,.refl C,β',env,_,h1,hQ⟩
 intro fuel;induction fuel with
 |zero=>
  intro listed env s β a w hs hf hd hb hst;have hall:=DV (gp.1 hf);refine⟨?_,done hall hb hst⟩;cases hr:Region.ready .any ops listed with
  |nil=>rfl
  |cons i rs=>
   have hi:i∈Region.ready .any ops listed:=by rw[hr];exact aS
   obtain⟨h1,o,ho,_⟩:=fL.1 hi;have hl:i<ops.size:=(aV.1 ho).1;have h2:=hall i hl;have:i<listed.size:=by omega
   simp[this]at h1 h2;rw[h1]at h2;cases h2
 |succ fuel ih=>
  intro listed env s β a w hs hf hd hb hst;refine⟨fun hn=>done (all hs hn) hb hst,fun i hi=>?_⟩;obtain⟨h1,o,ho,hall⟩:=fL.1 hi;have hl:i<ops.size:=(aV.1 ho).1;have hll:i<listed.size:=by omega
  have hu:listed.getD i false=false:=by simp[hll]at h1⊢;exact h1
  have hr:∀e∈after.getD i [],listed.getD e false=true:=fun e he=>by
   rw[haf i o ho]at he;obtain⟨d,hd1,rfl⟩:=bq.1 he;obtain⟨hd2,hd3⟩:=dx.1 hd1;exact hall d (by simpa using hd2) hd3
  obtain⟨m0,hmi0,hmo⟩:=hget i o (by simpa using ho);rw[bz]at hmi0;obtain⟨m,hmi,rfl⟩:=ay.1 hmi0;unfold wpOpIn;rw[ho];simp only;refine ue (K:=fun env' s'=>env'=iZ m.dst env (x i)/\s'=qk s (δ i)) hmo (h.run hd hmi hu hr hb) hst fun β' env' s' a' w' h4 h5=>?_
  obtain⟨rfl,rfl⟩:=h5;have hset:∀j,j≠i->(listed.setIfInBounds i true).getD j false=listed.getD j false:=fun j hj=>getD_set_ne false (Ne.symm hj)
  have hone:(listed.setIfInBounds i true).getD i false=true:=by simp[hll]
  refine ih _ _ _ β' a' w' (by simpa using hs) ?_ (fun j hj e he=>?_) (h.next hd hmi hu hr hone hset hb) h4
  ·have:=(FH (L:=fun j=>listed.getD j false) (L':=fun j=>(listed.setIfInBounds i true).getD j false) hu hone hset (n:=ops.size)).2 hl;omega
  ·by_cases hji:j=i
   ·subst hji;exact fW (hr e he)
   ·rw[hset j hji]at hj;exact fW (hd j hj e he)
theorem U4{P:Program}{k:Nat}{Q:Post}{env:List AV}{s:iw}{ms:List iO}{after:List gT}(hP:P.follows .mixedOrders=true)
 (h:vz P k (fun acc env s=>vh ms after acc.reverse=true/\Q .normal env s) ms [] env s):ot P k (.draw ms after) Q env s:=fun C hC _ c hc β a w hst=>by
 obtain⟨id,ops,rfl,hm,ha⟩:=EF hc;subst hC;obtain⟨x,δ,ft,E,S,hE,hS,h1,h2,h3⟩:=zj h;rw[bh,List.reverse_reverse]at h2;obtain⟨hlen,_⟩:=wS hm;rw[aT]at hlen;have hrep:∀j,(Array.replicate ops.size false).getD j false=false:=fun j=>by
  rw[bU,Array.getElem?_replicate];split<;>rfl
 have g0:∀{β:Type}{f:Nat->Option β}{b:β}(n:Nat),gl f (fun j=>(Array.replicate ops.size false).getD j false) b n=b:=fun{β f b} n=>by
  induction n with
  |zero=>rfl
  |succ n ih=>simp only[gl];rw[aj (by rw[hrep];simp)];exact ih
 have hu:∀n,Jk (fun j=>(Array.replicate ops.size false).getD j false) n<=n:=fun n=>by
  induction n with
  |zero=>exact aA _
  |succ n ih=>simp only[Jk];rw[hrep];simp only;omega
 refine wpIn_region_any hP (Gk hm ha ⟨h1,h2⟩ h3 ops.size _ env s β a _ (by simp) (hu _) (fun i hi=>?_) ⟨by rw[hE],fun t ht=>?_,fun id'=>?_⟩ hst.drew)
 ·rw[hrep]at hi;cases hi
 ·rw[g0,hE]
 ·rw[g0,hS]
def BY(ms:List iO)(after:List gT)(Q:Post)(acc:List (List Nat×List Nat))(env:List AV)(s:iw):Prop:=
 vh ms after acc.reverse=true/\Q .normal env s
def mC(P:Program)(k0:Nat)(F:List (List Nat×List Nat)->List AV->iw->Prop)(ms:List iO)(acc:List (List Nat×List Nat))(foot:List Nat)(d:Option Nat)(env:List AV)(s:iw)
 (o:rq):Prop:=Ab P k0 (sat s) (fun x δ ex=>vz P k0 F ms ((ex++foot,δ.map (·.1))::acc) (iZ d env x) (qk s δ)) o
def og(P:Program)(k0:Nat)(F:List (List Nat×List Nat)->List AV->iw->Prop)(ms:List iO)(acc:List (List Nat×List Nat))(foot:List Nat)(d:Option Nat)(env:List AV)(s:iw)
 (f:Nat) (args:List AV):Prop:=SL P k0 (sat s) f args fun x δ ex=>vz P k0 F ms ((ex++foot,δ.map (·.1))::acc) (iZ d env x) (qk s δ)
def Ca(P:Program)(k0:Nat)(F:List (List Nat×List Nat)->List AV->iw->Prop)(ms:List iO)(acc:List (List Nat×List Nat))(foot:List Nat)(d:Option Nat)(env:List AV)(s:iw)
 (b:Bool) (o1 o2:rq):Prop:=if b=true then mC P k0 F ms acc foot d env s o1 else mC P k0 F ms acc foot d env s o2
def zD(P:Program)(k0:Nat)(F:List (List Nat×List Nat)->List AV->iw->Prop)(b want:Bool)(m:sH)(d:Option Nat)(ms:List iO)(acc:List (List Nat×List Nat))(env:List AV)(s:iw):Prop:=
 if b=want then mC P k0 F ms acc (tH (ev env) m) d env s (lF P k0 (ev env) (sat s) m)else vz P k0 F ms (([],[])::acc) (iZ d env (.mB [])) s
def VP(P:Program)(k0:Nat)(F:List (List Nat×List Nat)->List AV->iw->Prop)(want:Bool)(m:sH)(d:Option Nat)(ms:List iO)(acc:List (List Nat×List Nat))(env:List AV)(s:iw):AV->Prop
 |.d (.lit (.bool b))=>zD P k0 F b want m d ms acc env s
 |.mB []=>vz P k0 F ms (([],[])::acc) (iZ d env (.mB [])) s
 |_=>False
section
variable{P:Program}{k0:Nat}{F:List (List Nat×List Nat)->List AV->iw->Prop}{b want:Bool}{m:sH}{d:Option Nat}{ms:List iO}{env:List AV}{s:iw}
 {acc:List (List Nat×List Nat)} {foot:List Nat}
theorem Sm:vz P k0 F [] acc env s=F acc env s:=(rfl)
theorem L_:vz P k0 F (⟨d,m,none⟩::ms) acc env s=mC P k0 F ms acc (tH (ev env) m) d env s (lF P k0 (ev env) (sat s) m):=(rfl)
theorem L9{g:Nat}:vz P k0 F (⟨d,m,some (some g,want)⟩::ms) acc env s=VP P k0 F want m d ms acc env s (env.getD g .iG):=by
 simp only[vz,gd];generalize env.getD g .iG=x;cases x with
 |d y=>cases y with
  |lit u=>cases u with
   |bool b=>
    simp only[VP,zD];cases b<;>cases want<;>rfl
   |_=>rfl
  |_=>rfl
 |mB cs=>cases cs<;>rfl
 |_=>rfl
theorem Py{x:AV}{δ:List (Nat×Ob)}:mC P k0 F ms acc foot d env s (.ok x δ)=vz P k0 F ms ((foot,δ.map (·.1))::acc) (iZ d env x) (qk s δ):=(rfl)
theorem Jp{p:Prop}{o:rq}:mC P k0 F ms acc foot d env s (.need p o)=(p/\mC P k0 F ms acc foot d env s o):=(rfl)
theorem Jo{f:Nat}{args:List AV}:mC P k0 F ms acc foot d env s (.call f args)=og P k0 F ms acc foot d env s f args:=(rfl)
theorem Px{o1 o2:rq}:mC P k0 F ms acc foot d env s (.br b o1 o2)=Ca P k0 F ms acc foot d env s b o1 o2:=(rfl)
theorem Wa{o1 o2:rq}:Ca P k0 F ms acc foot d env s true o1 o2=mC P k0 F ms acc foot d env s o1:=by simp[Ca]
theorem V_{o1 o2:rq}:Ca P k0 F ms acc foot d env s false o1 o2=mC P k0 F ms acc foot d env s o2:=by simp[Ca]
theorem Um:zD P k0 F true true m d ms acc env s=mC P k0 F ms acc (tH (ev env) m) d env s (lF P k0 (ev env) (sat s) m):=by simp[zD]
theorem Uj:zD P k0 F false false m d ms acc env s=mC P k0 F ms acc (tH (ev env) m) d env s (lF P k0 (ev env) (sat s) m):=by simp[zD]
theorem Ul:zD P k0 F true false m d ms acc env s=vz P k0 F ms (([],[])::acc) (iZ d env (.mB [])) s:=by simp[zD]
theorem Uk:zD P k0 F false true m d ms acc env s=vz P k0 F ms (([],[])::acc) (iZ d env (.mB [])) s:=by simp[zD]
end
theorem XJ{P:Program}{k:Nat}{Q:Post}{env:List AV}{s:iw}{ms:List iO}{after:List gT}(hP:P.follows .mixedOrders=true)
 (h:vz P k (BY ms after Q) ms [] env s):ot P k (.draw ms after) Q env s:=U4 hP h
theorem jM{ms:List iO}{after:List gT}{Q:Post}{acc:List (List Nat×List Nat)}{env:List AV}{s:iw}(h:vh ms after acc.reverse=true)(hq:Q .normal env s):
 BY ms after Q acc env s:=⟨h,hq⟩
theorem U0{x:D}:UZ (.d x)=N9 (qR (.d x)):=(rfl)
theorem Lt{e e' id off len:Nat}{n:Int}:GI e n (.pV e' id off len)=.need (e'=e/\0<=n/\n<len) (.ok (.ptr id (off+n.toNat*e)) []):=(rfl)
theorem Q6{e:Nat}{n:Int}{x:D}:GI e n (.d x)=JZ e n (qR (.d x)):=(rfl)
theorem Lu{e e' id:Nat}{n:Int}{xs:List D}:GI e n (.own e' id xs)=JZ e n (some (e',xs)):=(rfl)
attribute [go_sem] JD ET F8 JB Oi KH SA Sm L_ L9 VP Py Jp Jo Px Wa V_ Um Uj Ul Uk CU sB Oh J3 KG FE Uw MV NL unL NB OE TZ Wo JZ Lt Q6 Lu UW SR N9 U0 KB LX Kz MO CO HV Wn Ff Qg MY Qh Ua YY J7 Nw lF tH qk
def tJ:Value:=.slice none 0 0
theorem St.DT{C:Ctx}{β:iE}{env:List AV}{s:iw}{a:Act}{w:World}(h:St C β env s a w){id t e:Nat}(hd:sat s id=.dead):
 St C (iA β id (.tok tJ 0)) env (sset s id (.tok t e 0)) a w/\mP β s w (iA β id (.tok tJ 0)) (sset s id (.tok t e 0)) w:=by
 have hno:β id=.no:=by have:=h.inv.obs id;rw[hd]at this;exact this
 have noOwn:∀b o,¬own (iA β id (.tok tJ 0)) [(id,.tok t e 0)] b o:=fun b o ⟨i,hi⟩=>by
  by_cases h1:i=id
  ·subst h1;simp[sat,iA,tJ]at hi
  ·simp[sat,h1]at hi
 have noBlk:∀b,¬ig (iA β id (.tok tJ 0)) [(id,.tok t e 0)] id b:=fun b hi=>by simp[ig,sat,iA,tJ]at hi
 have m:mP β s w (iA β id (.tok tJ 0)) (sset s id (.tok t e 0)) w:=by
  refine⟨aA _,rfl,fun b o v hc _=>hc,fun b hb _=>rfl,fun b o ho=>?_,fun i b hb=>?_,fun i=>?_⟩
  ·rcases uS ho with ho|ho
   ·exact .inl ho
   ·exact absurd ho (noOwn b o)
  ·rcases kg hb with⟨_,hb⟩|⟨_,hb⟩
   ·exact .inl ⟨i,hb⟩
   ·exact absurd hb (noBlk b)
  ·by_cases hi:i=id
   ·subst hi;simp only[iA,aC];rw[hno];trivial
   ·simp only[iA,hi,aB];exact .refl _
 refine⟨h.move m (fun i=>?_) (fun i j b hi hj=>?_),m⟩
 ·rw[kB];by_cases hi:i=id
  ·subst hi;simp only[aC,vB];exact⟨tJ,by simp[iA],.inl ⟨rfl,rfl⟩⟩
  ·simp only[hi,aB];exact(h.inv.obs i).vR m (by simp[iA,hi]) (fun b hb=>rfl) rfl
 ·rcases kg hi with⟨hi1,hi2⟩|⟨rfl,hi2⟩<;>rcases kg hj with⟨hj1,hj2⟩|⟨rfl,hj2⟩
  ·exact h.inv.inj i j b hi2 hj2
  ·exact absurd hj2 (noBlk b)
  ·exact absurd hi2 (noBlk b)
  ·rfl
theorem Dz{O:Own}{w:World}{e0:Nat}{v:Value}(h:D.ok O w (.sl e0 (some true) []) v):v=tJ:=by
 simp only[D.ok,KN]at h;obtain⟨a,cap,h1,_,⟨rfl,rfl⟩,_⟩:=h;simpa[tJ]using h1
theorem Cx{β:iE}{O:Own}{w:World}{e id:Nat}(hb:β id=.tok tJ 0):AV.ok β O w (.own e id []) tJ:=by
 simp only[AV.ok,D.ok,KN];exact⟨⟨none,0,by simp[tJ],by simp[Jt],trivial,by simp⟩,tJ,0,by rw[hb];exact⟨rfl,rfl⟩,aA _,fun _=>rfl⟩
theorem iV.VM{k:Nat}{env:List AV}{s:iw}(i id t e:Nat){e0:Nat}(hd:sat s id=.dead)(hi:env[i]?=some (.d (.sl e0 (some true) []))):
 iV k env s (env.set i (.own e id [])) (sset s id (.tok t e 0)):=fun _ _ _ _ _ hst=>by
 obtain⟨h1,m⟩:=hst.DT (t:=t) (e:=e) hd;refine⟨_,h1.defers,h1.inv,by rw[h1.len,fA],fun j x hj=>?_⟩;rw[dQ]at hj;split at hj
 ·rename_i hij;subst hij;split at hj
  ·cases hj;have:=hst.env i _ hi;simp only[AV.ok]at this;rw[Dz this];exact Cx (by simp[iA])
  ·cases hj
 ·exact h1.env j x hj
theorem St.Vr{C:Ctx}{β:iE}{env:List AV}{s:iw}{a:Act}{w:World}(h:St C β env s a w){o t:Nat}{cs cs':List AV}(ho:sat s o=.obj t cs)
 (hc:∀vs,AV.iP β (C.iz β s) w cs vs->AV.iP β (C.iz β s) w cs' vs):St C β env (sset s o (.obj t cs')) a w:=by
 have hown:∀b x,own β (sset s o (.obj t cs')) b x<->own β s b x:=fun b x=>by
  constructor<;>rintro⟨i,hi⟩<;>refine⟨i,?_⟩<;>rw[kB]at*<;>by_cases hio:i=o
  ·subst hio;simp only[aC]at hi;rw[ho];exact hi
  ·simpa[hio]using hi
  ·subst hio;rw[ho]at hi;simpa using hi
  ·simpa[hio]using hi
 have hblk:∀i b,ig β (sset s o (.obj t cs')) i b<->ig β s i b:=fun i b=>by
  unfold ig;rw[kB];by_cases hio:i=o
  ·subst hio;simp[ho]
  ·simp[hio]
 have m:mP β s w β (sset s o (.obj t cs')) w:=
  ⟨aA _,rfl,fun b o v hc _=>hc,fun b hb _=>rfl,fun b x hx=>.inl ((hown b x).1 hx),fun i b hb=>.inl ⟨i,(hblk i b).1 hb⟩,fun i=>.refl _⟩
 refine h.move m (fun i=>?_) (fun i j b hi hj=>h.inv.inj i j b ((hblk i b).1 hi) ((hblk j b).1 hj));rw[kB];by_cases hio:i=o
 ·subst hio;simp only[aC];have:=h.inv.obs i;rw[ho]at this;obtain⟨b,vs,h1,h2,h3,h4⟩:=this;exact⟨b,vs,h1,h2,h3,h4.imp fun _ h=>m.iP (hc _ h)⟩
 ·simp only[hio,aB];exact(h.inv.obs i).vR m rfl (fun b hb=>rfl) rfl
theorem Fl{β:iE}{O:Own}{w:World}{y:AV}:∀{cs:List AV}{vs:List Value}{j:Nat}{x:AV},cs[j]?=some x->(∀v,AV.ok β O w x v->AV.ok β O w y v)->AV.iP β O w cs vs->AV.iP β O w (cs.set j y) vs
 |[],vs,j,x,hj,_,_=>by simp at hj
 |c::cs,vs,0,x,hj,hy,h=>by
  simp only[AV.iP,fP]at h⊢;simp at hj;subst hj;obtain⟨v,r,h1,h2,h3⟩:=h;exact⟨v,r,h1,hy v h2,h3⟩
 |c::cs,vs,j+1,x,hj,hy,h=>by
  simp only[AV.iP,fQ]at h⊢;obtain⟨v,r,h1,h2,h3⟩:=h;exact⟨v,r,h1,h2,Fl (by simpa using hj) hy h3⟩
theorem iV.A8{k:Nat}{env:List AV}{s:iw}(o j id t e:Nat){e0 t':Nat}{cs:List AV}(hd:sat s id=.dead)(ho:sat s o=.obj t' cs)(hj:cs[j]?=some (.d (.sl e0 (some true) []))):
 iV k env s env (sset (sset s id (.tok t e 0)) o (.obj t' (cs.set j (.own e id [])))):=fun _ _ _ _ _ hst=>by
 obtain⟨h1,m⟩:=hst.DT (t:=t) (e:=e) hd;have hoi:o≠id:=by rintro rfl;rw[hd]at ho;cases ho
 refine⟨_,h1.Vr (cs:=cs) (by rw[kB,aj hoi,ho]) fun _ hv=>Fl hj (fun _ hv=>?_) hv⟩;simp only[AV.ok]at hv;rw[Dz hv];exact Cx (by simp[iA])
def D.le(x y:D):Prop:=∀O w vs,D.HL O w x vs->D.HL O w y vs
def ql:List D->List D->Prop
 |[],[]=>True
 |x::xs,y::ys=>D.le x y/\ql xs ys
 |_,_=>False
theorem D.le_refl(x:D):D.le x x:=fun _ _ _ h=>h
theorem ql.refl:∀xs:List D,ql xs xs
 |[]=>trivial
 |x::xs=>⟨D.le_refl x,ql.refl xs⟩
theorem ql.length:∀{xs ys:List D},ql xs ys->xs.length=ys.length
 |[],[],_=>rfl
 |_::_,_::_,h=>by simp[ql.length h.2]
 |[],_::_,h=>h.elim
 |_::_,[],h=>h.elim
theorem ql.append:∀{xs ys us vs:List D},ql xs ys->ql us vs->ql (xs++us) (ys++vs)
 |[],[],_,_,_,h=>h
 |_::_,_::_,_,_,h,k=>⟨h.1,ql.append h.2 k⟩
 |[],_::_,_,_,h,_=>h.elim
 |_::_,[],_,_,h,_=>h.elim
theorem ql.row{O:Own}{w:World}{b e:Nat}:∀{xs ys:List D}{o:Nat},ql xs ys->D.row O w b o e xs->D.row O w b o e ys
 |[],[],_,_,h=>h
 |_::_,_::_,_,h,hr=>by
  rw[D.mQ]at hr⊢;obtain⟨⟨vs,h1,h2,h3⟩,h4⟩:=hr;exact⟨⟨vs,h1,h2,h.1 O w vs h3⟩,ql.row h.2 h4⟩
 |[],_::_,_,h,_=>h.elim
 |_::_,[],_,h,_=>h.elim
theorem T_{O:Own}{w:World}{e:Nat}{nl:Option Bool}{xs ys:List D}{v:Value}(h:ql xs ys)(hv:D.ok O w (.sl e nl xs) v):D.ok O w (.sl e nl ys) v:=by
 simp only[D.ok]at hv⊢;obtain⟨a,cap,h1,h2,h3,h4⟩:=hv;refine⟨a,cap,by rw[<-h.length];exact h1,by rw[<-h.length];exact h2,h3,?_⟩;rcases h4 with h4|⟨b,o,h5,h6⟩
 ·subst h4;cases ys with
  |nil=>exact .inl rfl
  |cons y ys=>exact h.elim
 ·exact .inr ⟨b,o,h5,h.row h6⟩
theorem AV.Dt{e:Nat}{nl:Option Bool}{xs ys:List D}(h:ql xs ys):AV.le (.d (.sl e nl xs)) (.d (.sl e nl ys)):=fun _ _ _ _ hv=>by
 simp only[AV.ok]at hv⊢;exact T_ h hv
theorem AV.tT{e id:Nat}{xs ys:List D}(h:ql xs ys):AV.le (.own e id xs) (.own e id ys):=fun _ _ _ _ hv=>by
 simp only[AV.ok]at hv⊢;obtain⟨h1,u,n,h2,h3,h4⟩:=hv;exact⟨T_ h h1,u,n,h2,by rw[<-h.length];exact h3,by rw[<-h.length];exact h4⟩
def Yz(pv:Value):Exit:=.panic [{v:=pv,recovered:=false}]
def XE(pv:Value)(e:Ending)(v:Value):Prop:=(∃u,e=.returned u/\v=.tuple #[u,.bool true])\/(e=.panicked [{v:=pv,recovered:=false}]/\v=.tuple #[.bool false,.bool false])
def okB(b:Bool):AV:=.d (.lit (.bool b))
def XK(Q:Post)(pv:Value)(d:Option Nat)(x:AV)(env:List AV)(s:iw):Prop:=∃y b,x=.mB [y,okB b]/\(b=true->Q .normal (iZ d env y) s)/\(b=false->Q (Yz pv) env s)
def sy(P:Program)(k0:Nat)(pv:Value)(Q:Post)(m:iO)(env:List AV)(s:iw):Prop:=
 match m.op with
 |.ke f args=>Nu (XE pv) P k0 f (args.map (ev env)) env s (XK Q pv m.dst)
 |.D3 x=>ev env x=.d (.lit pv)/\(∃t u,pv=.iface t u)/\Q (Yz pv) env s
 |_=>False
section
variable{P:Program}{o:Oper}
theorem IV{f:Nat}{args:List Operand}(hm:kM P o=some (.ke f args)):∃c:Call,o.op=.call c/\c.callee=.value (.func f)/\enters P f=true/\c.args.toList=args:=by
 unfold kM at hm;split at hm
 case h_20 c hop=>
  split at hm
  ·rename_i g hc;split at hm
   ·rename_i he;cases hm;exact⟨c,hop,hc,he,rfl⟩
   ·cases hm
  all_goals exfalso
  all_goals repeat(first
   |(cases hm;done)
   |(simp only[aq,ay]at hm)
   |(obtain⟨_,_,hm⟩:=hm)
   |split at hm)
 all_goals exfalso
 all_goals repeat(first
  |(cases hm;done)
  |(simp only[aq,ay]at hm)
  |(obtain⟨_,_,hm⟩:=hm)
  |split at hm)
theorem Ol{x:Operand}(hm:kM P o=some (.D3 x)):o.op=.panic x:=by
 unfold kM at hm;split at hm
 case h_21 y hop=>cases hm;exact hop
 all_goals exfalso
 all_goals repeat(first
  |(cases hm;done)
  |(simp only[aq,ay]at hm)
  |(obtain⟨_,_,hm⟩:=hm)
  |split at hm)
end
theorem Dr{P:Program}{C:Ctx}{ops:Array Oper}{o:Oper}{m:iO}(hm:pU P ops o=some m.erase)(hg:m.guard=none){env:List AV}{s:iw}{pv:Value}{Q:Post}(hk:sy P C.k pv Q m env s)
 {β:iE} {a:Act} {w:World} (hst:St C β env s a w) {N:Act->World->Prop} (hN:∀a' w',(∃C',Ext C C'/\∃β' env' s',St C' β' env' s' a' w'/\Q .normal env' s')->N a' w'):
 o.guard=none/\o.wpIn C.oh 0 P a w N (fun e a' w'=>∃C',Ext C C'/\∃β' env' s',St C' β' env' s' a' w'/\Q e env' s'):=by
 obtain⟨h1,h2,h3⟩:=wh hm;have hgo:o.guard=none:=by
  rw[hg]at h3;cases hq:o.guard with
  |none=>rfl
  |some p=>rw[hq]at h3;cases h3
 refine⟨hgo,?_⟩;unfold sy at hk;split at hk
 ·rename_i f args hop;have h1':kM P o=some (.ke f args):=by
   rw[hop]at h1;cases hq:kM P o with
   |some x=>rw[hq]at h1;rw[fZ]at h1;rw[<-h1];rfl
   |none=>rw[hq]at h1;cases h1
  obtain⟨c,hoc,hc,he,rfl⟩:=IV h1';have hnd:∀c,o.op≠ .defer c:=fun c' hc'=>by rw[hoc]at hc';cases hc'
  have hargs:AV.iP β (C.iz β s) w (c.args.toList.map (ev env)) (c.args.map a.eval).toList:=by rw[dH];exact Bv hst c.args.toList
  have hrun:(execOp a.eval o).run P w=.ok (.enter f (c.args.map a.eval)) w:=by
   simp only[execOp,hoc,resolve,hc,Act.eval,Deferred.ofValue,aY,bt,aG,invoke];rw[show #[]++c.args.map a.eval++#[]=c.args.map a.eval by simp];exact ym he _ _
  refine⟨fun _ _=>trivial,?_⟩;rw[eG _ _ _ hnd,hrun,Oper.uponIn_enter];refine⟨fun h=>by simp[Ctx.oh]at h,C6.2 ((BW hk hst hargs).mono ?_)⟩;rintro e w' ⟨v,x,β',s',hE,hst',hx,y,b,rfl,hq1,hq2⟩;rcases hE with⟨u,rfl,rfl⟩|⟨rfl,rfl⟩
  ·simp only[AV.ok,AV.iP,okB,D.ok]at hx;obtain⟨vs,hvs,v1,r1,e1,hy,v2,r2,e2,hb,hr⟩:=hx;cases hvs;simp only[bV]at e1;obtain⟨rfl,rfl⟩:=e1;simp only[bV]at e2;obtain⟨rfl,rfl⟩:=e2;have hb':b=true:=by simpa using hb.1.symm
   refine hN _ _ ⟨C,.refl C,β',_,s',hst'.put hy o.dst,?_⟩;have:=hq1 hb';rwa [h2]at this
  ·simp only[AV.ok,AV.iP,okB,D.ok]at hx;obtain⟨vs,hvs,v1,r1,e1,hy,v2,r2,e2,hb,hr⟩:=hx;cases hvs;simp only[bV]at e1;obtain⟨rfl,rfl⟩:=e1;simp only[bV]at e2;obtain⟨rfl,rfl⟩:=e2;have hb':b=false:=by simpa using hb.1.symm
   exact⟨C,.refl C,β',_,s',hst',hq2 hb'⟩
 ·rename_i x hop;obtain⟨hx,⟨t,u,rfl⟩,hq⟩:=hk;have h1':kM P o=some (.D3 x):=by
   rw[hop]at h1;cases hq:kM P o with
   |some x=>rw[hq]at h1;rw[fZ]at h1;rw[<-h1];rfl
   |none=>rw[hq]at h1;cases h1
  have hoc:=Ol h1';have hnd:∀c,o.op≠ .defer c:=fun c' hc'=>by rw[hoc]at hc';cases hc'
  refine⟨fun _ _=>trivial,?_⟩;have hxv:=hst.ev x;rw[hx]at hxv;have hxv:a.eval x=.iface t u:=qy hxv;have hrun:(execOp a.eval o).run P w=.halt (.panic (.iface t u)) w:=by
   simp only[execOp,hoc,hxv];rfl
  rw[eG _ _ _ hnd,hrun,Oper.uponIn_panic];exact⟨C,.refl C,β,env,s,hst,hq⟩
 ·exact hk.elim
theorem B8{P:Program}{C:Ctx}{ops:Array Oper}{Q:Post}{m:iO}{pv:Value}(hg:m.guard=none):∀(n i:Nat)(ms:List iO)(env:List AV)(s:iw),i+n+1=ops.size->ms.length=n->
 (ops.toList.drop i).mapM (pU P ops)=some ((ms++[m]).map iO.erase)->vA P C.k ms env s (sy P C.k pv Q m)->
 ∀(β:iE)(a:Act)(w:World),St C β env s a w->wpOpsIn C.oh 0 P ops (fun e a' w'=>∃C',Ext C C'/\∃β' env' s',St C' β' env' s' a' w'/\Q e env' s') (List.range' i (n+1)) a w
 |0,i,ms,env,s=>fun hi hms hm hk β a w hst=>by
  have hms':ms=[]:=bG.1 hms;subst hms';have hlt:i<ops.toList.length:=by simp;omega
  rw[aE hlt]at hm;simp only[cq,cm,aq,bA,aO,cT]at hm;obtain⟨m0,h1,ms0,h2,h3⟩:=hm;simp only[dL,aL,bV]at h3;obtain⟨rfl,rfl⟩:=h3;have ho:ops[i]?=some ops.toList[i]:=by simp at hlt;simp[hlt]
  obtain⟨k1,k2⟩:=Dr h1 hg (show sy P C.k pv Q m env s from hk) hst (N:=fun a' w'=>∃C',Ext C C'/\∃β' env' s',St C' β' env' s' a' w'/\Q .normal env' s') fun _ _ h=>h
  rw[show List.range' i (0+1)=[i]from rfl];simp only[wpOpsIn];rw[ho];simp only;rw[ah (yU k1)];exact k2
 |n+1,i,ms,env,s=>fun hi hms hm hk β a w hst=>by
  have hlt:i<ops.toList.length:=by simp;omega
  rw[aE hlt]at hm;simp only[cq,cm,aq]at hm;obtain⟨m0,h1,ms0,h2,h3⟩:=hm;cases ms with
  |nil=>cases hms
  |cons m' ms'=>
  simp only[bC,aO,dL,aL,bV]at h3;obtain⟨rfl,rfl⟩:=h3;rw[dV];simp only[wpOpsIn];have ho:ops[i]?=some ops.toList[i]:=by simp at hlt;simp[hlt]
  rw[ho];simp only;refine ue (K:=fun env s=>vA P C.k ms' env s (sy P C.k pv Q m)) h1 ?_ hst fun β' env' s' a' w' h4 h5=>B8 hg n (i+1) ms' env' s' h_ (by simpa using hms) h2 h5 β' a' w' h4
  simpa only[vA]using hk
theorem IT{P:Program}{k:Nat}{Q:Post}{env:List AV}{s:iw}{ms:List iO}{m:iO}(pv:Value)(hg:m.guard=none)(h:vA P k ms env s (sy P k pv Q m)):ot P k (.ie (ms++[m])) Q env s:=
 fun C hC _ c hc β a w hst=>by
 obtain⟨id,ops,rfl,hm⟩:=Dx hc;subst hC;refine wpIn_region ?_;have hsz:ms.length+1=ops.size:=by
  have:=gz _ _ hm;simpa using this
 have:=B8 (Q:=Q) (ops:=ops) hg ms.length 0 ms env s h_ rfl (by simpa using hm) h β a w hst;rwa [show ops.size=ms.length+1 by omega,dU]
theorem E2{P:Program}{C:Ctx}{ops:Array Oper}{Q:Post}{pv:Value}{m0:iO}(hg0:m0.guard=none){ms:List iO}{after:List gT}{x:Nat->AV}{δ:Nat->List (Nat×Ob)}{ft:Nat->List Nat×List Nat}
 {E:Nat->List AV} {S:Nat->iw} (hm:ops.toList.mapM (pU P ops)=some ((ms++[m0]).map iO.erase)) (hlast:∀i,i<ms.length->i∈(Gf after).getD ms.length []) (ha:after=ops.toList.map fun o=>(o.after.toList.filter (Region.binds .any)).map (·.on))
 (h:qU P C.k ms after x δ ft E S) (hQ:sy P C.k pv Q m0 (E ms.length) (S ms.length)):
 ∀(fuel:Nat)(listed:Array Bool)(env:List AV)(s:iw)(β:iE)(a:Act)(w:World),listed.size=ops.size->Jk (fun j=>listed.getD j false) ops.size<=fuel->listed.getD ms.length false=false->
  (∀i,listed.getD i false=true->∀e∈after.getD i [],listed.getD e false=true)->B_ E S ms x δ (fun j=>listed.getD j false) env s->St C β env s a w->
  wpAnyIn C.oh 0 P .any ops (fun e a' w'=>∃C',Ext C C'/\∃β' env' s',St C' β' env' s' a' w'/\Q e env' s') fuel listed a w:=by
 obtain⟨hlen,hget⟩:=wS hm;rw[aT,ai]at hlen;have hsz:ms.length+1=ops.size:=by simpa using hlen
 have haf:∀i o,ops[i]?=some o->after.getD i []=(o.after.toList.filter (Region.binds .any)).map (·.on):=fun i o ho=>by rw[ha,List.getD_eq_getElem?_getD,bz,Array.getElem?_toList,ho];rfl
 have hcl:wI after (Gf after)=true:=by
  have:=h.ok;simp only[vh,a_]at this;exact this.1
 have hback:∀i,∀e∈after.getD i [],e<i:=fun i e he=>by
  have hc:=hcl;simp only[wI,a_,bN,b_,av]at hc;have hi:i<after.length:=by
   rcases cF i after.length with h'|h'
   ·exact h'
   ·rw[List.getD_eq_getElem?_getD,bH h']at he;simp at he
  exact hc.1 i hi e he
 have isReady:∀{listed:Array Bool},listed.size=ops.size->∀{i:Nat},i<ops.size->listed.getD i false=false->(∀e∈after.getD i [],listed.getD e false=true)->
  i∈Region.ready .any ops listed:=fun{listed} hs {i} hi hu hr=>by
  rw[fL];have ho:ops[i]?=some ops[i]:=cH hi;refine⟨?_,_,ho,fun e he hb=>hr _ ?_⟩
  ·have:i<listed.size:=by omega
   simpa[this]using hu
  ·rw[haf i _ ho];exact bq.2 ⟨e,dx.2 ⟨by simpa using he,hb⟩,rfl⟩
 have none_ready:∀{listed:Array Bool},listed.size=ops.size->(∀i,i<ops.size->listed.getD i false=true)->Region.ready .any ops listed=[]:=fun{listed} hs hall=>by
  cases hr:Region.ready .any ops listed with
  |nil=>rfl
  |cons i rs=>
   have hi:i∈Region.ready .any ops listed:=by rw[hr];exact aS
   obtain⟨h1,o,ho,_⟩:=fL.1 hi;have hl:i<ops.size:=(aV.1 ho).1;have h2:=hall i hl;have:i<listed.size:=by omega
   simp[this]at h1 h2;rw[h1]at h2;cases h2
 have all:∀{listed:Array Bool},listed.size=ops.size->Region.ready .any ops listed=[]->∀i,i<ops.size->listed.getD i false=true:=fun{listed} hs hn i=>by
  induction i using Nat.strongRecOn with
  |ind i ih=>
   intro hi;cases hu:listed.getD i false with
   |true=>rfl
   |false=>
    have:=isReady hs hi hu fun e he=>ih e (hback i e he) (by have:=hback i e he;omega)
    rw[hn]at this;cases this
 have done:∀{listed:Array Bool}{env:List AV}{s:iw},(∀i,i<ms.length->listed.getD i false=true)->
  B_ E S ms x δ (fun j=>listed.getD j false) env s->env=E ms.length/\∀id,sat s id=sat (S ms.length) id:=fun{listed env s} hall hb=>by
  have hb':=hb.env (L':=fun _=>true) fun j hj=>hall j hj
  have e1:env=E ms.length:=by
   refine ek fun t=>?_
   by_cases ht:t<(E 0).length
   ·have h1:=hb'.slot t ht;rw[<-h.slot ht (aA _)]at h1;have l1:t<env.length:=by rw[hb'.len];exact ht
    have l2:t<(E ms.length).length:=by rw[h.len (aA _)];exact ht
    rw[List.getD_eq_getElem?_getD,List.getD_eq_getElem?_getD,az l1,az l2]at h1;rw[az l1,az l2];simpa using h1
   ·rw[bH (by rw[hb'.len];omega),bH (by rw[h.len (aA _)];omega)]
  exact⟨e1,fun id=>by rw[hb'.obj id,<-h.obj id (aA _)]⟩
 intro fuel;induction fuel with
 |zero=>
  intro listed env s β a w hs hf hu0 hd hb hst;exact absurd (DV (gp.1 hf) ms.length h_) (by rw[hu0];simp)
 |succ fuel ih=>
  intro listed env s β a w hs hf hu0 hd hb hst;refine⟨fun hn=>absurd (all hs hn ms.length h_) (by rw[hu0];simp),fun i hi=>?_⟩;obtain⟨h1,o,ho,hall⟩:=fL.1 hi;have hl:i<ops.size:=(aV.1 ho).1;have hll:i<listed.size:=by omega
  have hu:listed.getD i false=false:=by simp[hll]at h1⊢;exact h1
  have hr:∀e∈after.getD i [],listed.getD e false=true:=fun e he=>by
   rw[haf i o ho]at he;obtain⟨d,hd1,rfl⟩:=bq.1 he;obtain⟨hd2,hd3⟩:=dx.1 hd1;exact hall d (by simpa using hd2) hd3
  obtain⟨m0',hmi0,hmo⟩:=hget i o (by simpa using ho);rw[bz]at hmi0;obtain⟨m,hmi,rfl⟩:=ay.1 hmi0;unfold wpOpIn;rw[ho];simp only;have hset:∀j,j≠i->(listed.setIfInBounds i true).getD j false=listed.getD j false:=fun j hj=>getD_set_ne false (Ne.symm hj)
  have hone:(listed.setIfInBounds i true).getD i false=true:=by simp[hll]
  by_cases hin:i=ms.length
  ·subst hin;rw[bK (aA _),cQ]at hmi;cases hmi;have hall':∀i,i<ms.length->listed.getD i false=true:=fun j hj=>yj hcl hd ms.length hr j (hlast j hj)
   obtain⟨e1,e2⟩:=done hall' hb;rw[<-e1]at hQ;obtain⟨β1,hst1⟩:=iV.Uc (k:=C.k) (env:=env) e2 C β a w rfl hst;have hN:∀a' w',(∃C',Ext C C'/\∃β' env' s',St C' β' env' s' a' w'/\Q .normal env' s')->
    wpAnyIn C.oh 0 P .any ops (fun e a' w'=>∃C',Ext C C'/\∃β' env' s',St C' β' env' s' a' w'/\Q e env' s') fuel (listed.setIfInBounds ms.length true) a' w':=fun a' w' hq=>by
    have hnr:Region.ready .any ops (listed.setIfInBounds ms.length true)=[]:=none_ready (by simpa using hs) fun j hj=>by
     by_cases hj':j=ms.length
     ·subst hj';exact hone
     ·rw[hset j hj'];exact hall' j h_
    cases fuel with
    |zero=>exact⟨hnr,hq⟩
    |succ fuel=>exact⟨fun _=>hq,fun j hj=>by rw[hnr]at hj;cases hj⟩
   obtain⟨k1,k2⟩:=Dr (Q:=Q) hmo hg0 hQ hst1 hN;rw[ah (yU k1)];exact k2
  ·have hlt:i<ms.length:=by omega
   rw[aW hlt]at hmi;refine ue (K:=fun env' s'=>env'=iZ m.dst env (x i)/\s'=qk s (δ i)) hmo (h.run hd hmi hu hr hb) hst fun β' env' s' a' w' h4 h5=>?_
   obtain⟨rfl,rfl⟩:=h5;refine ih _ _ _ β' a' w' (by simpa using hs) ?_ (by rw[hset _ (Ne.symm hin)];exact hu0) (fun j hj e he=>?_) (h.next hd hmi hu hr hone hset hb) h4
   ·have:=(FH (L:=fun j=>listed.getD j false) (L':=fun j=>(listed.setIfInBounds i true).getD j false) hu hone hset (n:=ops.size)).2 hl;omega
   ·by_cases hji:j=i
    ·subst hji;exact fW (hr e he)
    ·rw[hset j hji]at hj;exact fW (hd j hj e he)
theorem Rg{P:Program}{k:Nat}{Q:Post}{env:List AV}{s:iw}{ms:List iO}{m0:iO}{after:List gT}(pv:Value)(hP:P.follows .mixedOrders=true)(hg0:m0.guard=none)
 (hlast:((List.range ms.length).all fun i=>((Gf after).getD ms.length []).contains i)=true)
 (h:vz P k (fun acc env s=>vh ms after acc.reverse=true/\sy P k pv Q m0 env s) ms [] env s):ot P k (.draw (ms++[m0]) after) Q env s:=fun C hC _ c hc β a w hst=>by
 obtain⟨id,ops,rfl,hm,ha⟩:=EF hc;subst hC;obtain⟨x,δ,ft,E,S,hE,hS,h1,h2,h3⟩:=zj h;rw[bh,List.reverse_reverse]at h2;obtain⟨hlen,_⟩:=wS hm;rw[aT,ai]at hlen;have hsz:ms.length+1=ops.size:=by simpa using hlen
 have hrep:∀j,(Array.replicate ops.size false).getD j false=false:=fun j=>by
  rw[bU,Array.getElem?_replicate];split<;>rfl
 have g0:∀{β:Type}{f:Nat->Option β}{b:β}(n:Nat),gl f (fun j=>(Array.replicate ops.size false).getD j false) b n=b:=fun{β f b} n=>by
  induction n with
  |zero=>rfl
  |succ n ih=>simp only[gl];rw[aj (by rw[hrep];simp)];exact ih
 have hu:∀n,Jk (fun j=>(Array.replicate ops.size false).getD j false) n<=n:=fun n=>by
  induction n with
  |zero=>exact aA _
  |succ n ih=>simp only[Jk];rw[hrep];simp only;omega
 have hlast':∀i,i<ms.length->i∈(Gf after).getD ms.length []:=fun i hi=>by
  rw[bN]at hlast;simpa using hlast i (b_.2 hi)
 refine wpIn_region_any hP (E2 hg0 hm hlast' ha ⟨h1,h2⟩ h3 ops.size _ env s β a _ (by simp) (hu _) (hrep _) (fun i hi=>?_) ⟨by rw[hE],fun t ht=>?_,fun id'=>?_⟩ hst.drew)
 ·rw[hrep]at hi;cases hi
 ·rw[g0,hE]
 ·rw[g0,hS]
def Gr(pv:Value)(rs:List sW)(R:AV->iw->Prop):Post
 |.normal,env,s=>vT env s rs fun xs=>R (.mB [tI xs,okB true]) s
 |.ret,env,s=>vT env s rs fun xs=>R (.mB [tI xs,okB true]) s
 |.panic ch,_,s=>ch=[{v:=pv,recovered:=false}]/\R (.mB [okB false,okB false]) s
 |_,_,_=>False
theorem yz{P:Program}{fn:Func}{tmps:Array Value}{R:Ending->World->Prop}{ch:List PanicEntry}(Z:World->Prop){B:Nat}
 (hZ:∀w w' D,Z w->w.grownBy w' (some D)->B<=D->(∃o:Obj,w.heap[D]?=some o/\Bb o)->Z w')
 (hfin:∀w,Z w->R (.panicked ch) w):
 ∀(Ds:List Nat)(w:World),Ds.Nodup->(∀D∈Ds,B<=D/\w.heap[D]?=some (.deferred (some [])))->Z w->LeavesInM Fence.wide 0 P fn tmps R (Ds.map yA) (.panicking ch) w
 |[],w,_,_,hz=>by simp only[cT,LeavesInM,LeavesIn];exact hfin w hz
 |D::Ds,w,hn,hd,hz=>by
  simp only[aO,LeavesInM];have h1:=hd D aS;rw[cz]at hn;refine⟨by simp,.inl ⟨D,_,rfl,run_takeDeferred h1.2,yz Z hZ hfin Ds _ hn.2 (fun D' hD'=>?_) ?_⟩⟩
  ·have h2:=hd D' (aP _ hD');exact⟨h2.1,(dh fun e=>hn.1 (by rw[<-e];exact hD')).trans h2.2⟩
  ·exact hZ _ _ D hz (eT w D _) h1.1 ⟨_,h1.2,rfl,rfl⟩
theorem Mf{pv:Value}{P:Program}{f:Nat}{fn:Func}{c:Code}{mc:ir}{rs:List sW}{args:List AV}{s:iw}{k n:Nat}{R:AV->iw->Prop}
 (hf:P.funcs[f]?=some fn) (hb:fn.body=some c) (hm:mT P c=some mc.erase) (hn:fn.ntmps=n) (hr:fn.results.toList.mapM (xB P)=some rs)
 (h:ot P k mc (Gr pv rs R) (args++List.replicate (n-args.length) .iG) s):oT (XE pv) P f args s k R:=by
 intro C vs hCs hCk hinv hargs;have hlen:=AV.iQ hargs;let C0:Ctx:={C with ro:=none,dom:=C.w.heap.size,nm:=false};refine callsIn_wide.1 (callsIn_of_wp_marks (F:=Fence.wide) (n:=0) hf hb trivial ?_);have hst:St C0 C.β (args++List.replicate (n-args.length) .iG) s {tmps:=vs++Array.replicate (fn.ntmps-vs.size) undef,defers:=[]} C.w:=by
  refine⟨.nil,hCs▸hinv.ro none C.w.heap.size,?_,fun i x hx=>?_⟩
  ·simp at hlen;simp[hn,hlen]
  ·rw[hCs]at hargs;rw[eC]at hx;split at hx
   ·rename_i hi;have hi2:i<vs.size:=by simp at hlen;omega
    have h1:(vs++Array.replicate (fn.ntmps-vs.size) undef).getD i undef=vs[i]:=by simp[bU,fE,hi2]
    rw[h1];exact(AV.jI.1 hargs).2 i x _ hx (by simp[hi2])
   ·have:x=.iG:=by
     rw[cP]at hx;split at hx
     ·cases hx;rfl
     ·cases hx
    subst this;simp[AV.ok]
 refine dD (h C0 hCk (.inr ⟨rfl,rfl,aA _⟩) c hm C.β _ _ hst) fun e a' w' he=>?_
 obtain⟨C',hx,β',env',s',hst',hq⟩:=he;have fin:vT env' s' rs (fun xs=>R (.mB [tI xs,okB true]) s')->LeavesInM Fence.wide 0 P fn a'.tmps (fun e w'=>∃v x β' s',XE pv e v/\Inv C β' s' w'/\AV.ok β' (C.iz β' s') w' x v/\R x s') a'.defers .returning w':=fun hq=>by
  obtain⟨_,Ds,hDs,hnd,hmk⟩:=hst'.defers;rw[hDs];refine xz (B:=C.w.heap.size) (fun w=>Inv C0 β' s' w/\∀i x,env'[i]?=some x->AV.ok β' (C0.iz β' s') w x (a'.tmps.getD i undef)) (fun w1 w2 D hz hg hB ho=>?_) (fun w1 hz=>?_) Ds w' hnd (fun D hD=>?_) ⟨hx.inv _ _ _ hst'.inv,fun i x hi=>?_⟩
  ·have hr:∀r,some D=some r->∃o:Obj,w1.heap[r]?=some o/\Bb o:=fun r e=>by cases e;exact ho
   exact⟨hz.1.pJ hg fun r e=>⟨by cases e;exact hB,hr r e⟩,fun i x hi=>AV.jY (fun b o v hc hn=>⟨eE hc hg (Ck hr),hn⟩) (fun _=>.refl _) _ _ (hz.2 i x hi)⟩
  ·have hst1:St C0 β' env' s' {a' with defers:=[]} w1:=⟨.nil,hz.1,hst'.len,hz.2⟩;obtain⟨us,xs,h1,h2,h3⟩:=CC hst1 fn.results.toList rs _ hr hq;refine⟨if h:us.toArray.size=1 then us.toArray[0]else .tuple us.toArray,?_,.tuple #[if h:us.toArray.size=1 then us.toArray[0]else .tuple us.toArray,.bool true],.mB [tI xs,okB true],β',s',.inl ⟨_,rfl,rfl⟩,hz.1.YG,?_,h3⟩
   ·rw[Ag,dW];simp only[aY,Sem.run_map];rw[h1];simp only[aG,bt]
   ·have hl:=AV.iQ h2;have hfb:C0.iz β' s'=C.iz β' s':=rfl;rw[hfb]at h2
    suffices hq:AV.ok β' (C.iz β' s') w1 (tI xs) (if h:us.toArray.size=1 then us.toArray[0]else .tuple us.toArray) by
     simp only[AV.ok,AV.iP,okB,D.ok];exact⟨_,rfl,_,_,rfl,hq,_,_,rfl,⟨rfl,rfl⟩,rfl⟩
    match xs,us,h2 with
    |[x],[u],h2=>
     simp only[AV.iP]at h2;obtain⟨_,_,h4,h5,h6⟩:=h2;cases h4;simpa[tI]using h5
    |[],[],h2=>simp only[tI,AV.ok];exact⟨#[],by simp,by simp[AV.iP]⟩
    |x::y::xs,u::v::us,h2=>
     simp only[tI,AV.ok];exact⟨(u::v::us).toArray,by simp,by simpa using h2⟩
  ·obtain⟨h1,h2,h3,h4⟩:=hmk D hD;exact⟨by rw[hx.dom]at h1;exact h1,(hst'.inv.qN D h2 h4).trans h3⟩
  ·have:=hst'.env i x hi;rwa [hx.iz]at this
 cases e with
 |normal=>exact fin hq
 |ret=>exact fin hq
 |exit id=>exact hq.elim
 |goto l=>exact hq.elim
 |panic ch=>
  obtain⟨rfl,hr'⟩:=hq;obtain⟨_,Ds,hDs,hnd,hmk⟩:=hst'.defers;show LeavesInM _ _ _ _ _ _ _ _ _;rw[hDs];refine yz (B:=C.w.heap.size) (fun w=>Inv C0 β' s' w) (fun w1 w2 D hz hg hB ho=>?_) (fun w1 hz=>?_) Ds w' hnd (fun D hD=>?_) (hx.inv _ _ _ hst'.inv)
  ·have hr:∀r,some D=some r->∃o:Obj,w1.heap[r]?=some o/\Bb o:=fun r e=>by cases e;exact ho
   exact hz.pJ hg fun r e=>⟨by cases e;exact hB,hr r e⟩
  ·refine⟨.tuple #[.bool false,.bool false],.mB [okB false,okB false],β',s',.inr ⟨rfl,rfl⟩,hz.YG,?_,hr'⟩;simp only[AV.ok,AV.iP,okB,D.ok];exact⟨_,rfl,_,_,rfl,⟨rfl,rfl⟩,_,_,rfl,⟨rfl,rfl⟩,rfl⟩
  ·obtain⟨h1,h2,h3,h4⟩:=hmk D hD;exact⟨by rw[hx.dom]at h1;exact h1,(hst'.inv.qN D h2 h4).trans h3⟩
 |outgrown=>exact hq.elim
theorem kS.VT{pv:Value}{P:Program}{f:Nat}{mc:ir}{n:Nat}{rs:List sW}(h:kS P f mc n rs){args:List AV}{s:iw}{k:Nat}{R:AV->iw->Prop}
 (hm:ot P k mc (Gr pv rs R) (args++List.replicate (n-args.length) .iG) s):oT (XE pv) P f args s k R:=by
 obtain⟨fn,h1,h2,h3,h4⟩:=h.fn;rw[aq]at h2;obtain⟨c,h5,h6⟩:=h2;exact Mf h1 h5 h6 h3 h4 hm
end ng
