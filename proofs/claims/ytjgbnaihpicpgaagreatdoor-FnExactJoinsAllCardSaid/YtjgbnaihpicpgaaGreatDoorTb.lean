/- A part of the proof about FnExactJoinsAll (LaAct, LaPan). -/
import Derived.Test.YtjgbnaihpicpgaaGreatDoorTa
set_option linter.all false
namespace lY
open Go
abbrev Post:=Exit->List AV->gU->Prop
structure Ext(C C':Ctx):Prop where
 size:C.w.heap.size<=C'.w.heap.size
 k:C'.k=C.k
 ro:C'.ro=C.ro
 nm:C'.nm=C.nm
 dom:C'.dom=C.dom
 O:C'.O=C.O
 inv:∀β s w,Inv C' β s w->Inv C β s w
theorem Ext.refl(C:Ctx):Ext C C:=⟨aC _,rfl,rfl,rfl,rfl,rfl,fun _ _ _ h=>h⟩
theorem Ext.trans{C C' C'':Ctx}(h:Ext C C')(h':Ext C' C''):Ext C C'':=
 ⟨cI h.size h'.size,h'.k.trans h.k,h'.ro.trans h.ro,h'.nm.trans h.nm,h'.dom.trans h.dom,h'.O.trans h.O,fun β s w hi=>h.inv β s w (h'.inv β s w hi)⟩
theorem Ext.nP{C C':Ctx}(h:Ext C C'):C'.nP=C.nP:=by unfold Ctx.nP;rw[h.ro]
theorem Ext.gX{C C':Ctx}(h:Ext C C')(β:gZ)(s:gU):C'.gX β s=C.gX β s:=by unfold Ctx.gX;rw[h.O]
def Ctx.plain(C:Ctx):Prop:=C.ro=none/\C.nm=false/\C.dom<=C.w.heap.size
theorem Ext.plain{C C':Ctx}(h:Ext C C')(hp:C.plain):C'.plain:=⟨h.ro.trans hp.1,h.nm.trans hp.2.1,by rw[h.dom];exact cI hp.2.2 h.size⟩
def CWp(P:Program)(C:Ctx)(c:Code)(Q:Post)(env:List AV)(s:gU):Prop:=
 ∀β a w,St C β env s a w->c.wpIn C.nP 0 P (fun e a' w'=>∃C',Ext C C'/\∃β' env' s',St C' β' env' s' a' w'/\Q e env' s') a w
def gV.flat:gV->Bool
 |.seq a b=>a.flat&&b.flat
 |.cond _ a b=>a.flat&&b.flat
 |.block _ a=>a.flat
 |.loop a=>a.flat
 |.ghost a=>a.flat
 |.scope a=>a.flat
 |.Dv .. =>false
 |_=>true
def ng(P:Program)(k:Nat)(mc:gV)(Q:Post)(env:List AV)(s:gU):Prop:=
 ∀C:Ctx,C.k=k->(mc.flat=true\/C.plain)->∀c,mq P c=some mc.erase->CWp P C c Q env s
def wj(K:List AV->gU->Prop)(Q:Post):Post
 |.normal,env,s=>K env s
 |e,env,s=>Q e env s
def B2(id:Nat)(Q:Post):Post
 |.exit id',env,s=>if id'=id then Q .normal env s else Q (.exit id') env s
 |e,env,s=>Q e env s
def SV(Q:Post):Post
 |.goto _,_,_=>False
 |e,env,s=>Q e env s
def sS(P:Program)(k0:Nat):List iw->List AV->gU->(List AV->gU->Prop)->Prop
 |[],env,s,K=>K env s
 |m::ms,env,s,K=>match m.guard with
  |none=>qA P k0 m.op env s fun x env s=>sS P k0 ms (iI m.dst env x) s K
  |some (g,want)=>match g with
   |none=>sS P k0 ms (iI m.dst env (.lE [])) s K
   |some d=>match env.getD d .gW with
    |.d (.lit (.bool b))=>Br b want (qA P k0 m.op env s fun x env s=>sS P k0 ms (iI m.dst env x) s K) (sS P k0 ms (iI m.dst env (.lE [])) s K)
    |.lE []=>sS P k0 ms (iI m.dst env (.lE [])) s K
    |_=>False
theorem KR{P:Program}{c:Code}(h:mq P c=some .skip):c=.skip:=by
 cases c<;>simp[mq,ai,ay]at h⊢
 case region=>obtain⟨ms,_,h⟩:=h;split at h<;>cases h
theorem Nl{P:Program}{c:Code}(h:mq P c=some .ret):c=.ret:=by
 cases c<;>simp[mq,ai,ay]at h⊢
 case region=>obtain⟨ms,_,h⟩:=h;split at h<;>cases h
theorem KP{P:Program}{c:Code}{id:Nat}(h:mq P c=some (.exit id)):c=.exit id:=by
 cases c<;>simp[mq,ai,ay]at h⊢
 case region=>obtain⟨ms,_,h⟩:=h;split at h<;>cases h
 case exit=>exact h
theorem Gf{P:Program}{c:Code}{x y:gV}(h:mq P c=some (.seq x y)):∃a b,c=.seq a b/\mq P a=some x/\mq P b=some y:=by
 cases c<;>simp[mq,ai,ay]at h⊢
 case region=>obtain⟨ms,_,h⟩:=h;split at h<;>cases h
 case seq=>exact⟨_,_,⟨rfl,rfl⟩,h⟩
theorem KO{P:Program}{c:Code}{o:Operand}{x y:gV}(h:mq P c=some (.cond o x y)):∃a b,c=.cond o a b/\mq P a=some x/\mq P b=some y:=by
 cases c<;>simp[mq,ai,ay]at h⊢
 case region=>obtain⟨ms,_,h⟩:=h;split at h<;>cases h
 case cond=>obtain⟨x',h1,y',h2,rfl,rfl,rfl⟩:=h;exact⟨_,_,⟨rfl,rfl,rfl⟩,h1,h2⟩
theorem CD{P:Program}{c:Code}{id:Nat}{x:gV}(h:mq P c=some (.block id x)):∃a,c=.block id a/\mq P a=some x:=by
 cases c<;>simp[mq,ai,ay]at h⊢
 case region=>obtain⟨ms,_,h⟩:=h;split at h<;>cases h
 case block=>exact⟨_,⟨h.2,rfl⟩,h.1⟩
theorem D0{P:Program}{c:Code}{x:gV}(h:mq P c=some (.loop x)):∃a,c=.loop a/\mq P a=some x:=by
 cases c<;>simp[mq,ai,ay]at h⊢
 case region=>obtain⟨ms,_,h⟩:=h;split at h<;>cases h
 case loop=>exact h
theorem Nm{P:Program}{c:Code}{g:Operand}{ps:List Nat}{x y:gV}(h:mq P c=some (.Dv g ps x y)):
 ∃ps' a b,c=.rangeFunc g ps' a b/\ps'.toList=ps/\mq P a=some x/\mq P b=some y:=by
 cases c<;>simp[mq,ai,ay]at h⊢
 case region=>obtain⟨ms,_,h⟩:=h;split at h<;>cases h
 case rangeFunc=>obtain⟨x',h1,y',h2,rfl,rfl,rfl,rfl⟩:=h;exact⟨_,_,_,⟨rfl,rfl,rfl,rfl⟩,rfl,h1,h2⟩
theorem zR{P:Program}{c:Code}{ms:List iw}(h:mq P c=some (.gQ ms)):∃id ops,c=.region id ops false/\ops.toList.mapM (oW P ops)=some ms:=by
 cases c<;>simp[mq,ai,ay]at h⊢
 case region=>
  obtain⟨ms',h1,h2⟩:=h;split at h2
  ·cases h2
  ·rename_i hd;cases h2;exact⟨_,_,⟨rfl,rfl,by simpa using hd⟩,h1⟩
section
variable{P:Program}{k:Nat}{Q:Post}{env:List AV}{s:gU}
theorem FP{x y:Bool}{p:Prop}(h:(x&&y)=true\/p):(x=true\/p)/\(y=true\/p):=by
 rcases h with h|h
 ·rw[bE]at h;exact⟨.inl h.1,.inl h.2⟩
 ·exact⟨.inr h,.inr h⟩
theorem T8(h:Q .normal env s):ng P k .skip Q env s:=fun C _ _ c hc β a w hst=>by rw[KR hc];exact wpIn_skip ⟨C,.refl C,β,env,s,hst,h⟩
theorem Wy(h:Q .ret env s):ng P k .ret Q env s:=fun C _ _ c hc β a w hst=>by rw[Nl hc];exact wpIn_ret ⟨C,.refl C,β,env,s,hst,h⟩
theorem T3{id:Nat}(h:Q (.exit id) env s):ng P k (.exit id) Q env s:=fun C _ _ c hc β a w hst=>by rw[KP hc];exact wpIn_exit ⟨C,.refl C,β,env,s,hst,h⟩
theorem WA{x y:gV}(h:ng P k x (wj (fun env s=>ng P k y Q env s) Q) env s):ng P k (.seq x y) Q env s:=fun C hC hf c hc β a w hst=>by
 obtain⟨c1,c2,rfl,h1,h2⟩:=Gf hc;obtain⟨f1,f2⟩:=FP hf;refine wpIn_seq (dJ (h C hC f1 c1 h1 β a w hst) fun e a' w' he=>?_);obtain⟨C',hx,β',env',s',hst',hq⟩:=he;cases e with
 |normal=>
  have:=hq C' (hx.k.trans hC) (f2.imp id hx.plain) c2 h2 β' a' w' hst';rw[hx.nP]at this;exact dJ this fun e a' w' ⟨C'',hx',r⟩=>⟨C'',hx.trans hx',r⟩
 |exit id=>exact⟨C',hx,β',env',s',hst',hq⟩
 |goto l=>exact⟨C',hx,β',env',s',hst',hq⟩
 |ret=>exact⟨C',hx,β',env',s',hst',hq⟩
 |panic ch=>exact⟨C',hx,β',env',s',hst',hq⟩
 |outgrown=>exact⟨C',hx,β',env',s',hst',hq⟩
theorem Qg{id:Nat}{x:gV}(h:ng P k x (B2 id Q) env s):ng P k (.block id x) Q env s:=fun C hC hf c hc β a w hst=>by
 obtain⟨c1,rfl,h1⟩:=CD hc;refine wpIn_block (dJ (h C hC hf c1 h1 β a w hst) fun e a' w' he=>?_);obtain⟨C',hx,β',env',s',hst',hq⟩:=he;cases e with
 |exit id'=>
  simp only[B2]at hq;simp only[Exit.inBlock];split<;>rename_i hid<;>simp only[hid,aB,aF]at hq<;>exact⟨C',hx,β',env',s',hst',hq⟩
 |normal=>exact⟨C',hx,β',env',s',hst',hq⟩
 |goto l=>exact⟨C',hx,β',env',s',hst',hq⟩
 |ret=>exact⟨C',hx,β',env',s',hst',hq⟩
 |panic ch=>exact⟨C',hx,β',env',s',hst',hq⟩
 |outgrown=>exact⟨C',hx,β',env',s',hst',hq⟩
theorem H7{P:Program}{c:Code}{x:gV}(h:mq P c=some (.scope x)):∃a,c=.scope a/\mq P a=some x:=by
 cases c<;>simp[mq,ai,ay]at h⊢
 case region=>obtain⟨ms,_,h⟩:=h;split at h<;>cases h
 case scope=>exact h
theorem H6{P:Program}{c:Code}(h:mq P c=some .label):∃l,c=.label l:=by
 cases c<;>simp[mq,ai,ay]at h⊢
 case region=>obtain⟨ms,_,h⟩:=h;split at h<;>cases h
section
variable{b:Frame}{a:Act}{ks:List Item}{cs:List Frame}{w:World}
theorem rz{c:Code}:step P (lone (b.atR a (.code (.scope c)::ks)) cs w)=.next (lone (b.atR a (.code c:: .inScope c::ks)) cs w):=
 step_lone_go (by simp[stepG,stepG.exec,Frame.atR])
theorem DA{c:Code}:step P (lone (b.atR a (.inScope c::ks)) cs w)=.next (lone (b.atR a ks) cs w):=
 step_lone_go (by simp[stepG,stepG.exec,Frame.atR])
theorem ID{F:Fence}{n:Nat}{Q:Exit->Act->World->Prop}{c:Code}(h:c.wpIn F n P (fun e a w=>(∀l,e≠ .goto l)/\Q e a w) a w):(Code.scope c).wpIn F n P Q a w:=by
 intro b k cs hro hb hr;have h0:(lone (b.atR a (.code (.scope c)::k)) cs w).fenced P F:=eW hb hr rfl;obtain⟨e,a₁,w₁,hq,harr⟩:=h b (.inScope c::k) cs hro hb hr;cases e with
 |normal=>exact⟨.normal,a₁,w₁,hq.2,.head h0 rz (StepsIn.trans harr (.one (eW hb hr rfl) DA))⟩
 |exit id'=>
  have hx:exitTo id' (.inScope c::k)=exitTo id' k:=by simp[exitTo]
  exact⟨.exit id',a₁,w₁,hq.2,fun k' hk=>.head h0 rz (harr.1 k' (by rw[hx];exact hk)),
   fun hr' hk=>let⟨k₁,h1,h2⟩:=harr.2 hr' (by rw[hx];exact hk);⟨k₁,h1,.head h0 rz h2⟩⟩
 |goto l=>exact absurd rfl (hq.1 l)
 |ret=>exact⟨_,a₁,w₁,hq.2,.of_steps (.one h0 rz) harr⟩
 |panic ch=>exact⟨_,a₁,w₁,hq.2,.of_steps (.one h0 rz) harr⟩
 |outgrown=>exact⟨_,a₁,w₁,hq.2,.of_steps (.one h0 rz) harr⟩
end
theorem Qk(h:Q .normal env s):ng P k .label Q env s:=fun C _ _ c hc β a w hst=>by
 obtain⟨l,rfl⟩:=H6 hc;exact wpIn_label ⟨C,.refl C,β,env,s,hst,h⟩
theorem Qm{x:gV}(h:ng P k x (SV Q) env s):ng P k (.scope x) Q env s:=fun C hC hf c hc β a w hst=>by
 obtain⟨c1,rfl,h1⟩:=H7 hc;refine ID (dJ (h C hC hf c1 h1 β a w hst) fun e a' w' he=>?_);obtain⟨C',hx,β',env',s',hst',hq⟩:=he;cases e with
 |goto l=>exact hq.elim
 |_=>exact⟨(fun l e=>nomatch e),C',hx,β',env',s',hst',hq⟩
theorem T1{o:Operand}{x y:gV}{b:Bool}(hb:ev env o=.d (.lit (.bool b)))(h:Br b true (ng P k x Q env s) (ng P k y Q env s)):
 ng P k (.cond o x y) Q env s:=fun C hC hf c hc β a w hst=>by
 obtain⟨c1,c2,rfl,h1,h2⟩:=KO hc;obtain⟨f1,f2⟩:=FP hf;have hv:=hst.ev o;rw[hb]at hv;refine wpIn_cond (qc hv) ?_;unfold Br at h;cases b with
 |true=>exact h C hC f1 c1 h1 β a w hst
 |false=>exact h C hC f2 c2 h2 β a w hst
def ij(k:Nat)(env:List AV)(s:gU)(env':List AV)(s':gU):Prop:=
 ∀(C:Ctx)(β:gZ)(a:Act)(w:World),C.k=k->St C β env s a w->∃β',St C β' env' s' a w
theorem T9{mc:gV}{env':List AV}{s':gU}(hw:ij k env s env' s')(h:ng P k mc Q env' s'):ng P k mc Q env s:=fun C hC hf c hc β a w hst=>by
 obtain⟨β',hst'⟩:=hw C β a w hC hst;exact h C hC hf c hc β' a w hst'
theorem Qj{x:gV}{env':List AV}{s':gU}(hw:ij k env s env' s')(h:ng P k x Q env' s'):ng P k (.ghost x) Q env s:=fun C hC hf c hc β a w hst=>by
 obtain⟨β',hst'⟩:=hw C β a w hC hst;exact h C hC hf c hc β' a w hst'
theorem T7{x:gV}{ι:Type}(E:ι->List AV)(S:ι->gU)(inv:ι->Prop)(μ:ι->Nat)(i0:ι)(h0:inv i0)(hw:ij k env s (E i0) (S i0))
 (round:∀i,inv i->ng P k x (wj (fun env' s'=>∃i',inv i'/\μ i'<μ i/\ij k env' s' (E i') (S i')) Q) (E i) (S i)):ng P k (.loop x) Q env s:=
 fun C hC hf c hc β a w hst=>by
 obtain⟨c1,rfl,h1⟩:=D0 hc;obtain⟨β0,hst0⟩:=hw C β a w hC hst;intro b kk cs hro hb hr;have key:∀n i C' β a w,Ext C C'->μ i=n->inv i->St C' β (E i) (S i) a w->
  ∃e a' w',(∃C'',Ext C C''/\∃β' env' s',St C'' β' env' s' a' w'/\Q e env' s')/\ArrivesIn (Machine.fenced P C.nP) P (lone (b.atR a (.code c1:: .inLoop c1::kk)) cs w) b kk cs e a' w':=by
  intro n;induction n using Nat.strongRecOn with
  |_ n ih=>
   intro i C' β a w hx hn hi hst;have hrd:=round i hi C' (hx.k.trans hC) (hf.imp id hx.plain) c1 h1 β a w hst;rw[hx.nP]at hrd;obtain⟨e,a₁,w₁,hq,harr⟩:=hrd b (.inLoop c1::kk) cs hro hb hr;obtain⟨C'',hx',β',env',s',hst',hq⟩:=hq;have hxx:=hx.trans hx';cases e with
   |normal=>
    obtain⟨i',hi',hlt,hwk⟩:=hq;obtain⟨β2,hst2⟩:=hwk C'' β' a₁ w₁ (hxx.k.trans hC) hst';obtain⟨e₂,a₂,w₂,hq₂,harr₂⟩:=ih (μ i') (hn▸hlt) i' C'' β2 a₁ w₁ hxx rfl hi' hst2;exact⟨e₂,a₂,w₂,hq₂,.of_steps (StepsIn.trans harr (.one (eW hb hr rfl) stepR_inLoop)) harr₂⟩
   |exit id=>exact⟨_,a₁,w₁,⟨C'',hxx,β',env',s',hst',hq⟩,.pass (x:=.inLoop c1) rfl (fun _ _=>.inl (by simp)) harr⟩
   |goto l=>exact⟨_,a₁,w₁,⟨C'',hxx,β',env',s',hst',hq⟩,.pass (x:=.inLoop c1) rfl (fun _ _=>.inl (by simp)) harr⟩
   |ret=>exact⟨_,a₁,w₁,⟨C'',hxx,β',env',s',hst',hq⟩,.pass (x:=.inLoop c1) rfl (fun _ _=>.inl (by simp)) harr⟩
   |panic ch=>exact⟨_,a₁,w₁,⟨C'',hxx,β',env',s',hst',hq⟩,.pass (x:=.inLoop c1) rfl (fun _ _=>.inl (by simp)) harr⟩
   |outgrown=>exact⟨_,a₁,w₁,⟨C'',hxx,β',env',s',hst',hq⟩,.pass (x:=.inLoop c1) rfl (fun _ _=>.inl (by simp)) harr⟩
 obtain⟨e,a',w',hq,harr⟩:=key _ i0 C β0 a w (.refl C) rfl h0 hst0;exact⟨e,a',w',hq,.of_steps (.one (eW hb hr rfl) stepR_loop) harr⟩
end
theorem sX{P:Program}{ops:Array Oper}{o:Oper}{m:iw}(h:oW P ops o=some m.erase):
 m.op.erase=(jI P o).getD .dead/\m.dst=o.dst/\m.guard=o.guard.map fun(j,b)=>((ops[j]?).bind (·.dst),b):=by
 unfold oW iw.erase at h;simp only[aM,iw.mk.injEq]at h;exact⟨h.2.1.symm,h.1.symm,h.2.2.symm⟩
theorem vj{o:Oper}{y:Nat->Option Bool}(h:o.guard=none):Region.wanted o y=true:=by simp[Region.wanted,h]
theorem Ag{C:Ctx}{β:gZ}{env:List AV}{s:gU}{a:Act}{w:World}(hst:St C β env s a w){ops:Array Oper}{j d:Nat}{b:Bool}
 (hd:(ops[j]?).bind (·.dst)=some d) (hb:env.getD d .gW=.d (.lit (.bool b))):yielded ops a.tmps j=some b:=by
 have h1:=hst.ev (.tmp d);simp only[ev]at h1;rw[hb]at h1;have h1:=qc h1;simp only[Act.eval]at h1;unfold yielded;rw[hd];simp only[aa];have hlt:d<a.tmps.size:=by
  rcases cH d a.tmps.size with h|h
  ·exact h
  ·have:a.tmps.getD d undef=undef:=by simp[bV,Array.getElem?_eq_none h]
   rw[this]at h1;cases h1
 have h2:a.tmps[d]?=some (.bool b):=by
  rw[cM hlt];rw[bV,cM hlt]at h1;simpa using h1
 rw[h2]
theorem E4{C:Ctx}{β:gZ}{env:List AV}{s:gU}{a:Act}{w:World}(hst:St C β env s a w){ops:Array Oper}{j d:Nat}
 (hd:(ops[j]?).bind (·.dst)=some d) (hb:env.getD d .gW=.lE []):yielded ops a.tmps j=none:=by
 have h1:=hst.ev (.tmp d);simp only[ev]at h1;rw[hb]at h1;simp only[AV.ok,AV.ir,Act.eval]at h1;obtain⟨vs,h1,_⟩:=h1;unfold yielded;rw[hd];simp only[aa];cases hx:a.tmps[d]? with
 |none=>rfl
 |some v=>
  have:a.tmps.getD d undef=v:=by rw[bV,hx];rfl
  rw[this]at h1;subst h1;rfl
theorem tf{P:Program}{C:Ctx}{ops:Array Oper}{o:Oper}{m:iw}(hm:oW P ops o=some m.erase){env:List AV}{s:gU}{K:List AV->gU->Prop}
 (hk:match m.guard with
  |none=>qA P C.k m.op env s fun x env s=>K (iI m.dst env x) s
  |some (g,want)=>match g with
   |none=>K (iI m.dst env (.lE [])) s
   |some d=>match env.getD d .gW with
    |.d (.lit (.bool b))=>Br b want (qA P C.k m.op env s fun x env s=>K (iI m.dst env x) s) (K (iI m.dst env (.lE [])) s)
    |.lE []=>K (iI m.dst env (.lE [])) s
    |_=>False)
 {β:gZ} {a:Act} {w:World} (hst:St C β env s a w) {Q:Exit->Act->World->Prop} {next:Act->World->Prop}
 (hn:∀β' env' s' a' w',St C β' env' s' a' w'->K env' s'->next a' w'):
 if Region.wanted o (yielded ops a.tmps)then o.wpIn C.nP 0 P a w next Q else(∀f,o.about P w a.eval=some f->C.nP.fn f)/\next (a.put o.dst undef) w:=by
 obtain⟨h1,h2,h3⟩:=sX hm;have run:qA P C.k m.op env s (fun x env s=>K (iI m.dst env x) s)->o.wpIn C.nP 0 P a w next Q:=fun h=>by
  rw[h2]at h;have h1':jI P o=some m.op.erase:=by
   cases hq:jI P o with
   |some x=>rw[hq]at h1;rw[h1];rfl
   |none=>
    rw[hq]at h1;simp only[Option.getD_none]at h1;have:m.op=.dead:=by cases hmo:m.op<;>rw[hmo]at h1<;>simp[rB.erase]at h1⊢
    rw[this]at h;exact h.elim
  have hnd:∀c,o.op≠ .defer c:=fun c hc=>by unfold jI at h1';rw[hc]at h1';cases h1'
  have:=Ll h1' h hnd Q β a w hst;exact Oper.wpIn_mono (fun a' w' ⟨β',env',s',h4,h5⟩=>hn β' env' s' a' w' h4 h5) this
 have skip:K (iI m.dst env (.lE [])) s->(∀f,o.about P w a.eval=some f->C.nP.fn f)/\next (a.put o.dst undef) w:=fun h=>by
  rw[h2]at h;refine⟨fun _ _=>trivial,?_⟩;exact hn _ _ _ _ _ (hst.put (x:=.lE []) (v:=undef) (by simp[AV.ok,AV.ir,undef]) o.dst) h
 cases hg:o.guard with
 |none=>
  rw[hg]at h3;simp only[eJ]at h3;rw[h3]at hk;rw[ah (vj hg)];exact run hk
 |some p=>
  obtain⟨j,want⟩:=p;rw[hg]at h3;simp only[aS]at h3;rw[h3]at hk;have hw:Region.wanted o (yielded ops a.tmps)=(yielded ops a.tmps j==some want):=by simp[Region.wanted,hg]
  rw[hw];cases hd:(ops[j]?).bind (·.dst)with
  |none=>
   rw[hd]at hk;have:yielded ops a.tmps j=none:=by simp[yielded,hd]
   rw[this];exact skip hk
  |some d=>
   rw[hd]at hk;simp only at hk;split at hk
   ·rename_i b hb;rw[Ag hst hd hb];unfold Br at hk;by_cases hbw:b=want
    ·rw[ah hbw]at hk;subst hbw;rw[ah (by simp)];exact run hk
    ·rw[ak hbw]at hk;rw[ak (by simpa using hbw)];exact skip hk
   ·rename_i hb;rw[E4 hst hd hb];exact skip hk
   ·exact hk.elim
theorem C6{P:Program}{C:Ctx}{ops:Array Oper}{Q:Post}:∀(n i:Nat)(ms:List iw)(env:List AV)(s:gU),i+n=ops.size->
 (ops.toList.drop i).mapM (oW P ops)=some (ms.map iw.erase)->sS P C.k ms env s (fun env s=>Q .normal env s)->
 ∀(β:gZ)(a:Act)(w:World),St C β env s a w->wpOpsIn C.nP 0 P ops (fun e a' w'=>∃C',Ext C C'/\∃β' env' s',St C' β' env' s' a' w'/\Q e env' s') (List.range' i n) a w
 |0,i,ms,env,s=>fun hi hm hk β a w hst=>by
  have:ops.toList.drop i=[]:=by apply ew;simp;omega
  rw[this]at hm;simp at hm;subst hm;exact⟨C,.refl C,β,env,s,hst,hk⟩
 |n+1,i,ms,env,s=>fun hi hm hk β a w hst=>by
  have hlt:i<ops.toList.length:=by simp;omega
  rw[aE hlt]at hm;simp only[cn,b_,ai]at hm;obtain⟨m0,h1,ms0,h2,h3⟩:=hm;cases ms with
  |nil=>cases h3
  |cons m ms'=>
  simp only[aN,dG,aM,bR]at h3;obtain⟨rfl,rfl⟩:=h3;rw[dL];simp only[wpOpsIn];have ho:ops[i]?=some ops.toList[i]:=by simp at hlt;simp[hlt]
  rw[ho];simp only;refine tf (K:=fun env s=>sS P C.k ms' env s fun env s=>Q .normal env s) h1 ?_ hst fun β' env' s' a' w' h4 h5=>C6 n (i+1) ms' env' s' gN h2 h5 β' a' w' h4
  simpa only[sS]using hk
theorem Wx{P:Program}{k:Nat}{Q:Post}{env:List AV}{s:gU}{ms:List iw}(h:sS P k ms env s fun env s=>Q .normal env s):ng P k (.gQ ms) Q env s:=
 fun C hC _ c hc β a w hst=>by
 obtain⟨id,ops,rfl,hm⟩:=zR hc;subst hC;refine wpIn_region ?_;have:=C6 (Q:=Q) (ops:=ops) ops.size 0 ms env s gN (by simpa using hm) h β a w hst;rwa [<-dI]at this
inductive rW where
 |tmp (t:Nat)
 |cell (a n:Nat) (ag:Bool)
def wM(P:Program):ResultVar->Option rW
 |.tmp t=>some (.tmp t)
 |.cell a t=>(jU P t).bind fun n=>(Fk P t).map fun ag=>.cell a (if ag then n else 1) ag
def vg(env:List AV)(s:gU):List rW->(List AV->Prop)->Prop
 |[],K=>K []
 |.tmp t::r,K=>vg env s r fun xs=>K (env.getD t .gW::xs)
 |.cell a n ag::r,K=>qL n ag (env.getD a .gW) s fun x=>vg env s r fun xs=>K (x::xs)
def sI:List AV->AV
 |[x]=>x
 |xs=>.lE xs
def FN(rs:List rW)(R:AV->gU->Prop):Post
 |.normal,env,s=>vg env s rs fun xs=>R (sI xs) s
 |.ret,env,s=>vg env s rs fun xs=>R (sI xs) s
 |_,_,_=>False
def NI(tmps:Array Value):ResultVar->Sem Value
 |.tmp t=>pure (tmps.getD t undef)
 |.cell b t=>do loadVar t (<-asAddr (tmps.getD b undef))
theorem zg(fn:Func)(tmps:Array Value):results fn tmps=(do let vs <-fn.results.mapM (NI tmps);pure (if h:vs.size=1 then vs[0]else .tuple vs)):=by
 unfold results;have:(fun x=>match x with|ResultVar.tmp t=>(pure (tmps.getD t undef):Sem Value)|ResultVar.cell a t=>do loadVar t (<-asAddr (tmps.getD a undef)))=NI tmps:=by
  funext x;cases x<;>rfl
 rw[<-this];rfl
theorem BK{P:Program}{C:Ctx}{β:gZ}{env:List AV}{s:gU}{a:Act}{w:World}(hst:St C β env s a w):∀(rv:List ResultVar)(rs:List rW)(K:List AV->Prop),
 rv.mapM (wM P)=some rs->vg env s rs K->
 ∃vs xs,(rv.mapM (NI a.tmps)).run P w=.ok vs w/\
  AV.ir β (C.gX β s) w xs vs/\K xs
 |[],rs,K=>fun h1 h2=>by
  simp at h1;subst h1;exact⟨[],[],by simp,by simp[AV.ir],h2⟩
 |.tmp t::rv,rs,K=>fun h1 h2=>by
  simp only[cn,b_,ai,wM]at h1;obtain⟨_,h3,rs',h4,h5⟩:=h1;cases h3;cases h5;simp only[vg]at h2;obtain⟨vs,xs,h6,h7,h8⟩:=BK hst rv rs' _ h4 h2;refine⟨a.tmps.getD t undef::vs,_,?_,?_,h8⟩
  ·rw[cn];simp only[NI,aX,bp,aJ,h6]
  ·simp only[AV.ir];exact⟨_,_,rfl,hst.ev (.tmp t),h7⟩
 |.cell b t::rv,rs,K=>fun h1 h2=>by
  simp only[cn,b_,ai,ay,wM]at h1;obtain⟨_,⟨n,hn,ag,hg,h3⟩,rs',h4,h5⟩:=h1;subst h3;cases h5;simp only[vg]at h2;obtain⟨v,x,h6,h7,h8⟩:=DT (P:=P) hn hg hst (hst.ev (.tmp b)) h2;obtain⟨vs,xs,h9,h10,h11⟩:=BK hst rv rs' _ h4 h8;refine⟨v::vs,x::xs,?_,?_,h11⟩
  ·rw[cn];have hload:(asAddr (a.tmps.getD b undef) >>=fun ad=>loadVar t ad:Sem Value).run P w=.ok v w:=by
    simp only[Instr.loadAt,Act.eval]at h6;simp only[aX]at h6⊢;cases hv:a.tmps.getD b undef with
    |pointer ad=>
     cases ad with
     |some ad=>rw[hv]at h6;simpa[Instr.sureAddr,asAddr]using h6
     |none=>rw[hv]at h6;simp[Instr.sureAddr]at h6
    |_=>rw[hv]at h6;simp[Instr.sureAddr]at h6
   simp only[aX]at hload;simp only[NI,aX,hload,aJ,h9,bp]
  ·simp only[AV.ir];exact⟨_,_,rfl,h7,h10⟩
theorem wJ{P:Program}{fn:Func}{tmps:Array Value}{R:Ending->World->Prop}(Z:World->Prop){B:Nat}
 (hZ:∀w w' D,Z w->w.grownBy w' (some D)->B<=D->(∃o:Obj,w.heap[D]?=some o/\Ai o)->Z w')
 (hfin:∀w,Z w->∃v,(results fn tmps).run P w=.ok v w/\R (.returned v) w):
 ∀(Ds:List Nat)(w:World),Ds.Nodup->(∀D∈Ds,B<=D/\w.heap[D]?=some (.deferred (some [])))->Z w->LeavesInM Fence.wide 0 P fn tmps R (Ds.map xL) .returning w
 |[],w,_,_,hz=>by simp only[dy,LeavesInM,LeavesIn];exact hfin w hz
 |D::Ds,w,hn,hd,hz=>by
  simp only[aN,LeavesInM];have h1:=hd D aZ;rw[cu]at hn;refine⟨by simp,.inl ⟨D,_,rfl,run_takeDeferred h1.2,wJ Z hZ hfin Ds _ hn.2 (fun D' hD'=>?_) ?_⟩⟩
  ·have h2:=hd D' (a_ _ hD');exact⟨h2.1,(dx fun e=>hn.1 (by rw[<-e];exact hD')).trans h2.2⟩
  ·exact hZ _ _ D hz (eO w D _) h1.1 ⟨_,h1.2,rfl,rfl⟩
theorem J0{P:Program}{f:Nat}{fn:Func}{c:Code}{mc:gV}{rs:List rW}{args:List AV}{s:gU}{k n:Nat}{R:AV->gU->Prop}
 (hf:P.funcs[f]?=some fn) (hb:fn.body=some c) (hm:mq P c=some mc.erase) (hn:fn.ntmps=n) (hr:fn.results.toList.mapM (wM P)=some rs)
 (h:ng P k mc (FN rs R) (args++List.replicate (n-args.length) .gW) s):h_ P f args s k R:=by
 intro C vs hCs hCk hinv hargs;have hlen:=AV.iC hargs;let C0:Ctx:={C with ro:=none,dom:=C.w.heap.size,nm:=false};refine callsIn_wide.1 (callsIn_of_wp_marks (F:=Fence.wide) (n:=0) hf hb trivial ?_);have hst:St C0 C.β (args++List.replicate (n-args.length) .gW) s {tmps:=vs++Array.replicate (fn.ntmps-vs.size) undef,defers:=[]} C.w:=by
  refine⟨.nil,hCs▸hinv.ro none C.w.heap.size,?_,fun i x hx=>?_⟩
  ·simp at hlen;simp[hn,hlen]
  ·rw[hCs]at hargs;rw[eF]at hx;split at hx
   ·rename_i hi;have hi2:i<vs.size:=by simp at hlen;omega
    have h1:(vs++Array.replicate (fn.ntmps-vs.size) undef).getD i undef=vs[i]:=by simp[bV,fk,hi2]
    rw[h1];exact(AV.je.1 hargs).2 i x _ hx (by simp[hi2])
   ·have:x=.gW:=by
     rw[dw]at hx;split at hx
     ·cases hx;rfl
     ·cases hx
    subst this;simp[AV.ok]
 refine dJ (h C0 hCk (.inr ⟨rfl,rfl,aC _⟩) c hm C.β _ _ hst) fun e a' w' he=>?_
 obtain⟨C',hx,β',env',s',hst',hq⟩:=he;have fin:vg env' s' rs (fun xs=>R (sI xs) s')->LeavesInM Fence.wide 0 P fn a'.tmps (fun e w'=>∃v x β' s',e=.returned v/\Inv C β' s' w'/\AV.ok β' (C.gX β' s') w' x v/\R x s') a'.defers .returning w':=fun hq=>by
  obtain⟨_,Ds,hDs,hnd,hmk⟩:=hst'.defers;rw[hDs];refine wJ (B:=C.w.heap.size) (fun w=>Inv C0 β' s' w/\∀i x,env'[i]?=some x->AV.ok β' (C0.gX β' s') w x (a'.tmps.getD i undef)) (fun w1 w2 D hz hg hB ho=>?_) (fun w1 hz=>?_) Ds w' hnd (fun D hD=>?_) ⟨hx.inv _ _ _ hst'.inv,fun i x hi=>?_⟩
  ·have hr:∀r,some D=some r->∃o:Obj,w1.heap[r]?=some o/\Ai o:=fun r e=>by cases e;exact ho
   exact⟨hz.1.oM hg fun r e=>⟨by cases e;exact hB,hr r e⟩,fun i x hi=>AV.iN (fun b o v hc hn=>⟨eG hc hg (Bw hr),hn⟩) (fun _=>.refl _) _ _ (hz.2 i x hi)⟩
  ·have hst1:St C0 β' env' s' {a' with defers:=[]} w1:=⟨.nil,hz.1,hst'.len,hz.2⟩;obtain⟨us,xs,h1,h2,h3⟩:=BK hst1 fn.results.toList rs _ hr hq;refine⟨if h:us.toArray.size=1 then us.toArray[0]else .tuple us.toArray,?_,_,sI xs,β',s',rfl,hz.1.XT,?_,h3⟩
   ·rw[zg,dX];simp only[aX,Sem.run_map];rw[h1];simp only[aJ,bp]
   ·have hl:=AV.iC h2;have hfb:C0.gX β' s'=C.gX β' s':=rfl;rw[hfb]at h2
    match xs,us,h2 with
    |[x],[u],h2=>
     simp only[AV.ir]at h2;obtain⟨_,_,h4,h5,h6⟩:=h2;cases h4;simpa[sI]using h5
    |[],[],h2=>simp only[sI,AV.ok];exact⟨#[],by simp,by simp[AV.ir]⟩
    |x::y::xs,u::v::us,h2=>
     simp only[sI,AV.ok];exact⟨(u::v::us).toArray,by simp,by simpa using h2⟩
  ·obtain⟨h1,h2,h3,h4⟩:=hmk D hD;exact⟨by rw[hx.dom]at h1;exact h1,(hst'.inv.oE D h2 h4).trans h3⟩
  ·have:=hst'.env i x hi;rwa [hx.gX]at this
 cases e with
 |normal=>exact fin hq
 |ret=>exact fin hq
 |exit id=>exact hq.elim
 |goto l=>exact hq.elim
 |panic ch=>exact hq.elim
 |outgrown=>exact hq.elim
structure jV(P:Program)(f:Nat)(mc:gV)(n:Nat)(rs:List rW):Prop where
 fn:∃fn,P.funcs[f]?=some fn/\fn.body.bind (mq P)=some mc.erase/\fn.ntmps=n/\fn.results.toList.mapM (wM P)=some rs
theorem jV.calls{P:Program}{f:Nat}{mc:gV}{n:Nat}{rs:List rW}(h:jV P f mc n rs){args:List AV}{s:gU}{k:Nat}{R:AV->gU->Prop}
 (hm:ng P k mc (FN rs R) (args++List.replicate (n-args.length) .gW) s):h_ P f args s k R:=by
 obtain⟨fn,h1,h2,h3,h4⟩:=h.fn;rw[ai]at h2;obtain⟨c,h5,h6⟩:=h2;exact J0 h1 h5 h6 h3 h4 hm
def AV.le(x y:AV):Prop:=∀β O w v,AV.ok β O w x v->AV.ok β O w y v
theorem AV.le_refl(x:AV):AV.le x x:=fun _ _ _ _ h=>h
theorem AV.Qa(x:AV):AV.le x .gW:=fun _ _ _ _ _=>by simp[AV.ok]
theorem AV.TV{e id:Nat}{xs:List D}:AV.le (.own e id xs) (.d (.sl e none xs)):=fun _ _ _ _ h=>by simp only[AV.ok]at h⊢;exact h.1
def iG:List AV->List AV->Prop
 |[],[]=>True
 |x::xs,y::ys=>AV.le x y/\iG xs ys
 |_,_=>False
theorem iG.get:∀{xs ys:List AV},iG xs ys->xs.length=ys.length/\∀(i:Nat)(y:AV),ys[i]?=some y->∃x,xs[i]?=some x/\AV.le x y
 |[],[],_=>by simp
 |[],_::_,h=>h.elim
 |_::_,[],h=>h.elim
 |x::xs,y::ys,h=>by
  obtain⟨h1,h2⟩:=h;obtain⟨h3,h4⟩:=iG.get h2;refine⟨by simp[h3],fun i z hz=>?_⟩;cases i with
  |zero=>simp at hz;subst hz;exact⟨x,rfl,h1⟩
  |succ i=>simpa using h4 i z (by simpa using hz)
section
variable{k:Nat}{env env' env'':List AV}{s s' s'':gU}
theorem ij.refl:ij k env s env s:=fun _ β _ _ _ h=>⟨β,h⟩
theorem ij.trans(h:ij k env s env' s')(h2:ij k env' s' env'' s''):ij k env s env'' s'':=fun C β a w hC hst=>let⟨β',h3⟩:=h C β a w hC hst;h2 C β' a w hC h3
theorem ij.kill(id:Nat)(hid:k<=id):ij k env s (AV.iz (ic id) env) (iW id s):=fun _ _ _ _ hC hst=>⟨_,hst.kill id (hC▸hid)⟩
theorem ij.S_(hs:∀id,sat s id=sat s' id):ij k env s env s':=fun C β a w hC hst=>by
 have h1:∀b o,own β s' b o<->own β s b o:=by intro b o;unfold own;simp only[hs]
 have h2:∀i b,gR β s' i b<->gR β s i b:=by intro i b;unfold gR;simp only[hs]
 have m:l_ β s w β s' w:=⟨aC _,rfl,fun _ _ _ h _=>h,fun _ _ _=>rfl,fun b o h=>.inl ((h1 b o).1 h),fun q b h=>.inl ⟨q,(h2 q b).1 h⟩,fun _=>.refl _⟩;exact⟨β,hst.move m (fun q=>by rw[<-hs];exact(hst.inv.obs q).vc m rfl (fun _ _=>rfl) rfl) (fun p q b hp hq=>hst.inv.inj p q b ((h2 p b).1 hp) ((h2 q b).1 hq))⟩
end
theorem wrap_i64{n:Int}(h1: -9223372036854775808<=n)(h2:n<9223372036854775808):IntKind.i64.wrap n=n:=by
 unfold IntKind.wrap IntKind.bits IntKind.signed;simp only[cj];split<;>rename_i h<;>simp at h<;>omega
theorem Pe{k:IntKind}{n:Int}:L6 (.int k n)=.d (.lit (.int k n)):=rfl
theorem L8{b:Bool}:L6 (.bool b)=.d (.lit (.bool b)):=rfl
theorem G6{b:ByteArray}:L6 (.string b)=.d (.lit (.string b)):=rfl
theorem Pf:L6 (.slice none 0 0)=.d (.sl 0 (some true) []):=rfl
theorem L7:L6 (.agg #[])=.d (.agg []):=rfl
mutual
def AV.ZY:AV->Option D
 |.d x=>some x
 |.own e _ xs=>some (.sl e none xs)
 |.agg cs=>(AV.UN cs).map .agg
 |.gW=>none
 |.ptr _ _=>none
 |.oX _ _ _ _=>none
 |.pv _=>none
 |.lE _=>none
 |.fn _ _ _=>none
 |.kL _ _ _=>none
 |.kP _ _ _=>none
 |.BC _ _=>none
 |.dp _=>none
 |.mp _=>none
def AV.UN:List AV->Option (List D)
 |[]=>some []
 |x::xs=>(AV.ZY x).bind fun y=>(AV.UN xs).map (y::·)
end
def AV.XS:AV->Option (List D)
 |.lE cs=>AV.Iq cs
 |_=>none
where
 AV.Iq:List AV->Option (List D)
 |[]=>some []
 |x::xs=>(AV.ZY x).bind fun y=>(AV.Iq xs).map (y::·)
theorem h_.mono{P:Program}{f:Nat}{args:List AV}{s:gU}{k:Nat}{R R':AV->gU->Prop}(h:h_ P f args s k R)
 (hR:∀x s,R x s->∃y,AV.le x y/\R' y s):h_ P f args s k R':=fun C vs h1 h2 h3 h4=>
 (h C vs h1 h2 h3 h4).mono fun _ _ ⟨v,x,β',s',he,hi,hx,hr⟩=>let⟨y,hle,hr'⟩:=hR x s' hr;⟨v,y,β',s',he,hi,hle _ _ _ _ hx,hr'⟩
def jF(P:Program)(f:Nat)(args:List D)(r:D):Prop:=h_ P f (args.map .d) [] 0 fun x _=>x=.d r
def oF(P:Program)(f:Nat)(args:List D)(rs:List D):Prop:=h_ P f (args.map .d) [] 0 fun x _=>x=.lE (rs.map .d)
theorem iG.ir{β:gZ}{O:Own}{w:World}:∀{xs ys:List AV}{vs:List Value},iG xs ys->AV.ir β O w xs vs->AV.ir β O w ys vs
 |[],[],_,_,h=>h
 |_::_,_::_,_,hl,h=>by
  simp only[AV.ir]at h⊢;obtain⟨v,r,h1,h2,h3⟩:=h;exact⟨v,r,h1,hl.1 _ _ _ _ h2,iG.ir hl.2 h3⟩
 |[],_::_,_,hl,_=>hl.elim
 |_::_,[],_,hl,_=>hl.elim
theorem h_.args{P:Program}{f:Nat}{args dz:List AV}{s:gU}{k:Nat}{R:AV->gU->Prop}(h:h_ P f dz s k R)(hl:iG args dz):h_ P f args s k R:=
 fun C vs h1 h2 h3 h4=>h C vs h1 h2 h3 (hl.ir h4)
theorem Fz{P:Program}{k0 f:Nat}{args env:List AV}{s:gU}{K:AV->List AV->gU->Prop}{dz:List D}{r:D}(ha:iG (args.map fun x=>x.jW (nQ [])) (dz.map .d))
 (hc:jF P f dz r) (hk:K (.d r) env s):IX P k0 f args env s K:=
 ⟨[],[],fun x _=>x=.d r,rfl,by simp,by simp,by simp,h_.args hc ha,by rintro x s' rfl;exact hk⟩
theorem DC{P:Program}{k0 f:Nat}{args env:List AV}{s:gU}{K:AV->List AV->gU->Prop}{dz:List D}{rs:List D}(ha:iG (args.map fun x=>x.jW (nQ [])) (dz.map .d))
 (hc:oF P f dz rs) (hk:K (.lE (rs.map .d)) env s):IX P k0 f args env s K:=by
 refine⟨[],[],fun x _=>x=.lE (rs.map .d),rfl,by simp,by simp,by simp,h_.args hc ha,?_⟩;rintro x s' rfl;have h2:∀qs:List D,AV.iz (lz ([]++[])) (qs.map .d)=qs.map .d:=fun qs=>by
  induction qs with
  |nil=>rfl
  |cons d ds ih=>simp only[aN,AV.iz,AV.jW,ih]
 simp only[AV.jW,h2];exact hk
def pM(env:List AV):List Nat->List AV
 |[]=>env
 |w::ws=>pM (env.set w .gW) ws
def nX(env:List AV):List (Nat×AV)->List AV
 |[]=>env
 |(w,x)::r=>nX (env.set w x) r
theorem Ql{P:Program}{k:Nat}{Q:Post}{env:List AV}{s:gU}{x:gV}{ι:Type}(ws:List Nat)(vs:ι->List (Nat×AV))(S:ι->gU)(inv:ι->Prop)(μ:ι->Nat)(i0:ι)(h0:inv i0)
 (hw:ij k env s (nX (pM env ws) (vs i0)) (S i0))
 (round:∀i,inv i->ng P k x (wj (fun env' s'=>∃i',inv i'/\μ i'<μ i/\ij k env' s' (nX (pM env ws) (vs i')) (S i')) Q) (nX (pM env ws) (vs i)) (S i)):
 ng P k (.loop x) Q env s:=T7 (fun i=>nX (pM env ws) (vs i)) S inv μ i0 h0 hw round
theorem F_(x:AV):AV.le x x<->True:=⟨fun _=>trivial,fun _=>AV.le_refl x⟩
theorem F9(x:AV):AV.le x .gW<->True:=⟨fun _=>trivial,fun _=>AV.Qa x⟩
theorem HP{e id:Nat}{xs:List D}:AV.le (.own e id xs) (.d (.sl e none xs))<->True:=⟨fun _=>trivial,fun _=>AV.TV⟩
def ints(l:gk):D:=.sl 1 none (l.map iD)
theorem N4(l:gk):qt (.d (ints l))=some (1,l.map iD):=rfl
theorem Hp(l:gk):AV.cells (.d (ints l))=some [.d (ints l)]:=rfl
theorem Fi(l:gk):AV.BU (.d (ints l))=none:=rfl
theorem FF(l:gk):gT (ints l)=[ints l]:=rfl
theorem UJ{e:Nat}{nl:Option Bool}{xs:List D}:qt (.d (.sl e nl xs))=some (e,xs):=rfl
theorem Q1{e id:Nat}{xs:List D}:qt (.own e id xs)=some (e,xs):=rfl
theorem Nt{e:Nat}{b:Bool}{xs:List D}:yu (.d (.sl e (some b) xs))=some b:=rfl
theorem Ns{e:Nat}{xs:List D}:yu (.d (.sl e none xs))=none:=rfl
theorem Qt{e id:Nat}{xs:List D}:yu (.own e id xs)=none:=rfl
theorem Qr{e id off n:Nat}:yu (.oX e id off n)=some false:=rfl
theorem Kf{cs:List D}:AV.cells (.d (.agg cs))=some (cs.map .d):=rfl
theorem Hl{cs:List AV}:AV.cells (.agg cs)=some cs:=rfl
theorem Ki{u:Value}:AV.cells (.d (.lit u))=some [.d (.lit u)]:=rfl
theorem Kg:AV.cells (.d .any)=some [.d .any]:=rfl
theorem MD{e:Nat}{nl:Option Bool}{xs:List D}:AV.cells (.d (.sl e nl xs))=some [.d (.sl e nl xs)]:=rfl
theorem Kl{e id:Nat}{xs:List D}:AV.cells (.own e id xs)=some [.own e id xs]:=rfl
theorem Km{id off:Nat}:AV.cells (.ptr id off)=some [.ptr id off]:=rfl
theorem Kj{e id off n:Nat}:AV.cells (.oX e id off n)=some [.oX e id off n]:=rfl
theorem MC{cs:List D}:AV.cells (.pv cs)=some [.pv cs]:=rfl
theorem MA{f:Nat}{a b:List AV}:AV.cells (.fn f a b)=some [.fn f a b]:=rfl
theorem GZ{cs:List D}:AV.BU (.d (.agg cs))=some (cs.map .d):=rfl
theorem Fh{cs:List AV}:AV.BU (.agg cs)=some cs:=rfl
theorem Hq{cs:List D}:gT (.agg cs)=cs:=rfl
theorem Hr{u:Value}:gT (.lit u)=[.lit u]:=rfl
theorem Ko{e:Nat}{nl:Option Bool}{xs:List D}:gT (.sl e nl xs)=[.sl e nl xs]:=rfl
theorem LV{k:IntKind}{n:Int}:jL (.d (.lit (.int k n)))=some n:=rfl
attribute [go_sem] ev Pe L8 G6 Pf L7 iI List.getD_cons_zero List.getD_cons_succ List.set_cons_zero List.set_cons_succ List.cons_append List.nil_append List.length_cons List.length_nil List.replicate List.map_cons List.map_nil sat sset iW ic AV.iz AV.jW Ob.kill Ob.jQ oA AV.fin AV.lp B3 wj B2 FN vg sI iG AV.ZY AV.UN AV.XS AV.XS.AV.Iq pM nX F_ F9 HP UJ Q1 Nt Ns Qt Qr Kf Hl Ki Kg MD Kl Km Kj MC MA GZ Fh Hq Hr Ko LV N4 Hp Fi FF
inductive Out where
 |ok (x:AV) (env:List AV) (s:gU)
 |need (p:Prop) (o:Out)
 |br (b:Bool) (o1 o2:Out)
 |call (f:Nat) (args env:List AV) (s:gU)
 |OZ (p:Prop) (o1 o2:Out)
 |bad
def runK(P:Program)(k0:Nat)(K:AV->List AV->gU->Prop):Out->Prop
 |.ok x env s=>K x env s
 |.need p o=>p/\runK P k0 K o
 |.br b o1 o2=>if b=true then runK P k0 K o1 else runK P k0 K o2
 |.call f args env s=>A4 P k0 f args env s K
 |.OZ p o1 o2=>(p->runK P k0 K o1)/\runK P k0 K o2
 |.bad=>False
def yt(id t:Nat)(cs env:List AV)(s:gU):Ob->Out
 |.dead=>.ok (.ptr id 0) env (sset s id (.obj t cs))
 |.obj _ _=>.ok (.ptr id 0) (AV.iz (ic id) env) (sset (iW id s) id (.obj t (AV.iz (ic id) cs)))
 |.tok _ _ _=>.ok (.ptr id 0) (AV.iz (ic id) env) (sset (iW id s) id (.obj t (AV.iz (ic id) cs)))
 |.kO _ _ _ _=>.ok (.ptr id 0) (AV.iz (ic id) env) (sset (iW id s) id (.obj t (AV.iz (ic id) cs)))
 |.od _ _ _ _=>.ok (.ptr id 0) (AV.iz (ic id) env) (sset (iW id s) id (.obj t (AV.iz (ic id) cs)))
 |.lN _ _ _=>.ok (.ptr id 0) (AV.iz (ic id) env) (sset (iW id s) id (.obj t (AV.iz (ic id) cs)))
 |.mp _ _ _=>.ok (.ptr id 0) (AV.iz (ic id) env) (sset (iW id s) id (.obj t (AV.iz (ic id) cs)))
def wN(id t e:Nat)(xs:List D)(env:List AV)(s:gU):Ob->Out
 |.dead=>.ok (.own e id xs) env (sset s id (.tok t e xs.length))
 |.obj _ _=>.ok (.own e id xs) (AV.iz (ic id) env) (sset (iW id s) id (.tok t e xs.length))
 |.tok _ _ _=>.ok (.own e id xs) (AV.iz (ic id) env) (sset (iW id s) id (.tok t e xs.length))
 |.kO _ _ _ _=>.ok (.own e id xs) (AV.iz (ic id) env) (sset (iW id s) id (.tok t e xs.length))
 |.od _ _ _ _=>.ok (.own e id xs) (AV.iz (ic id) env) (sset (iW id s) id (.tok t e xs.length))
 |.lN _ _ _=>.ok (.own e id xs) (AV.iz (ic id) env) (sset (iW id s) id (.tok t e xs.length))
 |.mp _ _ _=>.ok (.own e id xs) (AV.iz (ic id) env) (sset (iW id s) id (.tok t e xs.length))
def zU(id t e:Nat)(xs:List D)(env:List AV)(s:gU):Ob->Out
 |.dead=>.ok (.kL e id xs.length) env (sset s id (.kO t e xs.length (xs.flatMap gT)))
 |.obj _ _=>.ok (.kL e id xs.length) (AV.iz (ic id) env) (sset (iW id s) id (.kO t e xs.length (xs.flatMap gT)))
 |.tok _ _ _=>.ok (.kL e id xs.length) (AV.iz (ic id) env) (sset (iW id s) id (.kO t e xs.length (xs.flatMap gT)))
 |.kO _ _ _ _=>.ok (.kL e id xs.length) (AV.iz (ic id) env) (sset (iW id s) id (.kO t e xs.length (xs.flatMap gT)))
 |.od _ _ _ _=>.ok (.kL e id xs.length) (AV.iz (ic id) env) (sset (iW id s) id (.kO t e xs.length (xs.flatMap gT)))
 |.lN _ _ _=>.ok (.kL e id xs.length) (AV.iz (ic id) env) (sset (iW id s) id (.kO t e xs.length (xs.flatMap gT)))
 |.mp _ _ _=>.ok (.kL e id xs.length) (AV.iz (ic id) env) (sset (iW id s) id (.kO t e xs.length (xs.flatMap gT)))
def EG(id t e n:Nat)(cs env:List AV)(s:gU):Ob->Out
 |.dead=>.ok (.oX e id 0 n) env (sset s id (.obj t cs))
 |.obj _ _=>.ok (.oX e id 0 n) (AV.iz (ic id) env) (sset (iW id s) id (.obj t cs))
 |.tok _ _ _=>.ok (.oX e id 0 n) (AV.iz (ic id) env) (sset (iW id s) id (.obj t cs))
 |.kO _ _ _ _=>.ok (.oX e id 0 n) (AV.iz (ic id) env) (sset (iW id s) id (.obj t cs))
 |.od _ _ _ _=>.ok (.oX e id 0 n) (AV.iz (ic id) env) (sset (iW id s) id (.obj t cs))
 |.lN _ _ _=>.ok (.oX e id 0 n) (AV.iz (ic id) env) (sset (iW id s) id (.obj t cs))
 |.mp _ _ _=>.ok (.oX e id 0 n) (AV.iz (ic id) env) (sset (iW id s) id (.obj t cs))
def JG(n off:Nat)(cs:List AV):Bool->AV
 |true=>AV.mk ((cs.drop off).take n)
 |false=>cs.getD off .gW
def UH(n:Nat)(cs:List D):Bool->D
 |true=>.agg (cs.take n)
 |false=>cs.headD .any
def HS(n:Nat)(ag:Bool)(off:Nat)(env:List AV)(s:gU):Ob->Out
 |.obj _ cs=>.need (off+n<=cs.length) (.ok (JG n off cs ag) env s)
 |_=>.bad
def UI(n off:Nat)(cs:List D):Bool->D
 |true=>.agg ((cs.drop off).take n)
 |false=>cs.getD off .any
def HT(n:Nat)(ag:Bool)(k off:Nat)(env:List AV)(s:gU):Ob->Out
 |.kO _ _ m cs=>.need (m=k/\off+n<=cs.length) (.ok (.d (UI n off cs ag)) env s)
 |.lN _ m cs=>.need (m=k/\off+n<=cs.length/\ag=false/\n=1/\Cv (cs.getD off .gW)=false) (.ok (cs.getD off .gW) env s)
 |_=>.bad
def DS(n:Nat)(ag:Bool)(env:List AV)(s:gU):AV->Out
 |.ptr id off=>HS n ag off env s (sat s id)
 |.kP id k off=>HT n ag k off env s (sat s id)
 |.pv cs=>.need (n<=cs.length) (.ok (.d (UH n cs ag)) env s)
 |_=>.bad
def E1(n off id:Nat)(env:List AV)(s:gU):Ob->Option (List AV)->Out
 |.obj t cs,some xs=>.need (xs.length=n/\off+n<=cs.length) (.ok .gW env (sset s id (.obj t (cs.take off++xs++cs.drop (off+n)))))
 |_,_=>.bad
def BN(n k off id e m:Nat)(cs:List AV)(env:List AV)(s:gU):Option (List AV)->Out
 |some xs=>.need (m=k/\xs.length=n/\0<n/\off+n<=cs.length/\uF xs=true) (.ok .gW env (sset s id (.lN e m (cs.take off++xs++cs.drop (off+n)))))
 |none=>.bad
def BM(n k off id:Nat)(env:List AV)(s:gU)(X:Option (List AV)):Ob->Option D->Out
 |.kO t e m cs,some d=>.need (m=k/\(gT d).length=n/\off+n<=cs.length) (.ok .gW env (sset s id (.kO t e m (cs.take off++gT d++cs.drop (off+n)))))
 |.lN e m cs,_=>BN n k off id e m cs env s X
 |_,_=>.bad
def CV(n:Nat)(env:List AV)(s:gU)(x:AV):AV->Out
 |.ptr id off=>E1 n off id env s (sat s id) x.cells
 |.kP id k off=>BM n k off id env s x.cells (sat s id) x.fin
 |_=>.bad
def O9(op:BinOp)(env:List AV)(s:gU):AV->AV->Out
 |.d (.lit (.int k a)),.d (.lit (.int k' b))=>.need (Yf op k k')<|match op with
  |.add=>.ok (.d (.lit (.int k (k.wrap (a+b))))) env s
  |.sub=>.ok (.d (.lit (.int k (k.wrap (a-b))))) env s
  |.mul=>.ok (.d (.lit (.int k (k.wrap (a*b))))) env s
  |.quo=>.need (b≠0) (.ok (.d (.lit (.int k (k.wrap (a.tdiv b))))) env s)
  |.rem=>.need (b≠0) (.ok (.d (.lit (.int k (a.tmod b)))) env s)
  |.eql=>.ok (.d (bD (a==b))) env s
  |.neq=>.ok (.d (bD (a != b))) env s
  |.lss=>.ok (.d (bD (decide (a<b)))) env s
  |.leq=>.ok (.d (bD (decide (a<=b)))) env s
  |.gtr=>.ok (.d (bD (decide (b<a)))) env s
  |.geq=>.ok (.d (bD (decide (b<=a)))) env s
  |.and=>.ok (.d (.lit (.int k (O0 k a b)))) env s
  |.or=>.ok (.d (.lit (.int k (Yh k a b)))) env s
  |.xor=>.ok (.d (.lit (.int k (Rn k a b)))) env s
  |.andNot=>.ok (.d (.lit (.int k (IJ k a b)))) env s
  |.shl=>.need (0<=b) (.ok (.d (.lit (.int k (QX k a b)))) env s)
  |.shr=>.need (0<=b) (.ok (.d (.lit (.int k (QY k a b)))) env s)
 |.d (.lit (.string a)),.d (.lit (.string b))=>match op with
  |.add=>.need (a.size+b.size<2^63) (.ok (.d (.lit (.string (a++b)))) env s)
  |.eql=>.ok (.d (bD (a.toList==b.toList))) env s
  |.neq=>.ok (.d (bD (!(a.toList==b.toList)))) env s
  |_=>.bad
 |_,_=>.bad
def L1(neg:Bool)(a b:Bool):Bool:=match neg with|true=>a != b|false=>a==b
def IL(neg:Bool)(env:List AV)(s:gU):AV->AV->Out
 |.d (.lit (.bool a)),.d (.lit (.bool b))=>.ok (.d (bD (L1 neg a b))) env s
 |_,_=>.bad
def KU(neg b:Bool):Bool:=match neg with|true=>!b|false=>b
def Hw(neg:Bool)(env:List AV)(s:gU):Option (Nat×List D)->Out
 |some (_,xs)=>.OZ (xs=[]) (.ok (.d (bD (KU neg true))) env s) (.ok (.d (bD (KU neg false))) env s)
 |none=>.bad
def Ep(neg:Bool)(env:List AV)(s:gU)(x:AV):Option Bool->Out
 |some b=>.ok (.d (bD (KU neg b))) env s
 |none=>Hw neg env s (qt x)
def Yj(env:List AV)(s:gU):UnOp->AV->Out
 |.not,.d (.lit (.bool b))=>.ok (.d (bD (!b))) env s
 |.neg,.d (.lit (.int k n))=>.ok (.d (.lit (.int k (k.wrap (0-n))))) env s
 |_,_=>.bad
def Jw(env:List AV)(s:gU)(a b:AV):AV->Out
 |.d (.lit (.bool t))=>.br t (.ok a env s) (.ok b env s)
 |_=>.bad
def SU(env:List AV)(s:gU):AV->Out
 |.ptr id off=>.ok (.ptr id off) env s
 |.pv cs=>.ok (.pv cs) env s
 |.fn f a b=>.ok (.fn f a b) env s
 |.kP id m off=>.ok (.kP id m off) env s
 |_=>.bad
def Vp(off:Nat)(env:List AV)(s:gU):AV->Out
 |.ptr id o=>.ok (.ptr id (o+off)) env s
 |.pv cs=>.ok (.pv (cs.drop off)) env s
 |.kP id k o=>.ok (.kP id k (o+off)) env s
 |_=>.bad
def Jd(e:Nat)(n:Int)(env:List AV)(s:gU):Option (Nat×List D)->Out
 |some (e',xs)=>.need (e'=e/\0<=n/\n<xs.length) (.ok (.pv (gT (xs.getD n.toNat .any))) env s)
 |none=>.bad
def Cy(e:Nat)(n:Int)(env:List AV)(s:gU):AV->Out
 |.oX e' id off len=>.need (e'=e/\0<=n/\n<len) (.ok (.ptr id (off+n.toNat*e)) env s)
 |.kL e' id m=>.need (e'=e/\0<=n/\n<m) (.ok (.kP id m (n.toNat*e)) env s)
 |x=>Jd e n env s (qt x)
def P9(e:Nat)(env:List AV)(s:gU)(x:AV):Option Int->Out
 |some n=>Cy e n env s x
 |none=>.bad
def RN(e n:Nat)(env:List AV)(s:gU):Option Int->AV->Out
 |some j,.ptr id off=>.need (0<=j/\j<n) (.ok (.ptr id (off+j.toNat*e)) env s)
 |some j,.pv cs=>.need (0<=j/\j<n) (.ok (.pv (cs.drop (j.toNat*e))) env s)
 |_,_=>.bad
def M6(env:List AV)(s:gU):Option (Nat×List D)->Out
 |some (_,xs)=>.ok (.d (iD xs.length)) env s
 |none=>.bad
def HR(env:List AV)(s:gU):AV->Out
 |.oX _ _ _ n=>.ok (.d (iD n)) env s
 |.kL _ _ n=>.ok (.d (iD n)) env s
 |x=>M6 env s (qt x)
def JO(x:AV)(e:Nat)(env:List AV)(s:gU)(lo:Option Int)(hi:Option Operand):Option (Nat×List D)->Out
 |some (e',xs)=>match lo,B3 env xs.length hi with
  |some l,some h=>.need ((xs=[]\/e'=e)/\0<=l/\l<=h/\h<=xs.length) (.ok (.d (.sl e' (yu x) ((xs.take h.toNat).drop l.toNat))) env s)
  |_,_=>.bad
 |none=>.bad
def UK(e:Nat)(env:List AV)(s:gU):Option Operand->Option Int->Option Int->Option (Nat×List D)->Out
 |none,some h,some m,some (e',xs)=>.need ((xs=[]\/e'=e)/\h=m/\0<=h/\h<=xs.length) (.ok (.BC e' (xs.take h.toNat)) env s)
 |_,_,_,_=>.bad
def Yd(env:List AV):Option Operand->Option Int
 |some h=>jL (ev env h)
 |none=>none
def K7(x:AV)(e:Nat)(env:List AV)(s:gU)(lo hi:Option Operand):Option Operand->Out
 |none=>JO x e env s (B3 env 0 lo) hi (qt x)
 |some m=>UK e env s lo (Yd env hi) (jL (ev env m)) (qt x)
def Nq(t:Nat)(env:List AV)(s:gU):AV->Out
 |.d (.agg [])=>.ok (.d (.lit (.iface t (.agg #[])))) env s
 |_=>.bad
def Ig(e k0 j n:Nat)(h:Int)(env:List AV)(s:gU):Ob->Out
 |.kO t e2 m cs=>.need (e2=e/\n=m/\0<=h/\h<=m/\k0<=j) (.ok (.kL e j (Ku h.toNat m)) (AV.iz (ic j) env) (sset (iW j s) j (.kO t e (Ku h.toNat m) (PZ h.toNat e cs))))
 |_=>.bad
def N5(e k0:Nat)(env:List AV)(s:gU):AV->Option Int->Out
 |.kL e' j n,some h=>.need (e'=e) (Ig e k0 j n h env s (sat s j))
 |_,_=>.bad
def JM(e n:Nat)(env:List AV)(s:gU):AV->Option Operand->Option Operand->Option Operand->Out
 |.ptr id off,none,none,none=>.ok (.oX e id off n) env s
 |.ptr id off,none,some h,none=>match jL (ev env h)with
  |some h=>.need (0<=h/\h<=n) (.ok (.oX e id off h.toNat) env s)
  |none=>.bad
 |_,_,_,_=>.bad
def IK(t e bytes:Nat)(j:Nat)(xs ys:List D)(env:List AV)(s:gU)(ob:Ob):Out:=
 .need (ob=.tok t e xs.length/\(xs.length+ys.length)*bytes<=2^47) (.ok (.own e j (xs++ys)) env (sset s j (.tok t e (xs.length+ys.length))))
def LY(t e bytes:Nat)(j n:Nat)(ys:List D)(env:List AV)(s:gU):Ob->Out
 |.kO t' e2 m cs=>.need (t'=t/\e2=e/\m=n/\(n+ys.length)*bytes<=2^47) (.ok (.kL e j (n+ys.length)) env (sset s j (.kO t e (n+ys.length) (cs++ys.flatMap gT))))
 |_=>.bad
def Fp(id t e bytes k0:Nat)(e2:Nat)(ys:List D)(env:List AV)(s:gU):AV->Out
 |.own e' j xs=>.need ((ys=[]\/e2=e)/\e'=e) (IK t e bytes j xs ys env s (sat s j))
 |.kL e' j n=>.need ((ys=[]\/e2=e)/\e'=e) (LY t e bytes j n ys env s (sat s j))
 |.d (.sl _ (some true) [])=>.need ((ys=[]\/e2=e)/\ys.length*bytes<=2^47/\k0<=id) (wN id t e ys env s (sat s id))
 |.BC e' xs=>.need ((ys=[]\/e2=e)/\e'=e/\(xs.length+ys.length)*bytes<=2^47) (.ok (.d (.sl e none (xs++ys))) env s)
 |_=>.bad
def J3(id t e bytes k0:Nat)(x:AV)(env:List AV)(s:gU):Option (Nat×List D)->Out
 |some (e2,ys)=>Fp id t e bytes k0 e2 ys env s x
 |none=>.bad
def Av(id t e bytes k0:Nat)(e2:Nat)(ys:List D)(env:List AV)(s:gU):AV->Out
 |.d (.sl _ (some true) [])=>.need ((ys=[]\/e2=e)/\ys.length*bytes<=2^47/\k0<=id) (zU id t e ys env s (sat s id))
 |x=>Fp id t e bytes k0 e2 ys env s x
def BZ(id t e bytes k0:Nat)(x:AV)(env:List AV)(s:gU):Option (Nat×List D)->Out
 |some (e2,ys)=>Av id t e bytes k0 e2 ys env s x
 |none=>.bad
def TJ(i:Nat)(env:List AV)(s:gU):AV->Out
 |.lE cs=>.need (i<cs.length) (.ok (cs.getD i .gW) env s)
 |_=>.bad
def BF(mx:Bool)(env:List AV)(s:gU):AV->AV->Out
 |.d (.lit (.int k a)),.d (.lit (.int k' b))=>.need (k=k') (.ok (.d (.lit (.int k (match mx with|true=>if b>a then b else a|false=>if b<a then b else a)))) env s)
 |_,_=>.bad
def J7(id t k0:Nat)(env:List AV)(s:gU):Option (List AV)->Out
 |some cs=>.need (k0<=id) (yt id t cs env s (sat s id))
 |none=>.bad
def L5(env:List AV)(s:gU):Option (List AV)->Out
 |some cs=>.ok (AV.mk cs) env s
 |none=>.bad
def Pc(id t e k0:Nat)(env:List AV)(s:gU):Option (List D)->Out
 |some ds=>.need ((∀d∈ds,(gT d).length=e)/\k0<=id) (wN id t e ds env s (sat s id))
 |none=>.bad
def Qp(id t e n:Nat)(cs env:List AV)(s:gU):Ob->Out
 |.dead=>.ok (.oX e id 0 n) env (sset s id (.obj t cs))
 |_=>.bad
def EH(id t e:Nat)(ds:List D)(cs env:List AV)(s:gU):Ob->Out
 |.dead=>.ok (.own e id ds) env (sset s id (.od t e ds.length cs))
 |.obj _ _=>.ok (.own e id ds) (AV.iz (ic id) env) (sset (iW id s) id (.od t e ds.length (AV.iz (ic id) cs)))
 |.tok _ _ _=>.ok (.own e id ds) (AV.iz (ic id) env) (sset (iW id s) id (.od t e ds.length (AV.iz (ic id) cs)))
 |.kO _ _ _ _=>.ok (.own e id ds) (AV.iz (ic id) env) (sset (iW id s) id (.od t e ds.length (AV.iz (ic id) cs)))
 |.od _ _ _ _=>.ok (.own e id ds) (AV.iz (ic id) env) (sset (iW id s) id (.od t e ds.length (AV.iz (ic id) cs)))
 |.lN _ _ _=>.ok (.own e id ds) (AV.iz (ic id) env) (sset (iW id s) id (.od t e ds.length (AV.iz (ic id) cs)))
 |.mp _ _ _=>.ok (.own e id ds) (AV.iz (ic id) env) (sset (iW id s) id (.od t e ds.length (AV.iz (ic id) cs)))
def IS(id t e k0:Nat)(env:List AV)(s:gU):Option (List D)->Option (List AV)->Out
 |some ds,some cs=>.need ((∀d∈ds,(gT d).length=e)/\uF cs=true/\k0<=id) (EH id t e ds cs env s (sat s id))
 |_,_=>.bad
def IP(id t e k0:Nat)(env:List AV)(s:gU):Option (List D)->Out
 |some ds=>.need ((∀d∈ds,(gT d).length=e)/\k0<=id) (zU id t e ds env s (sat s id))
 |none=>.bad
def Jk(id t e bytes k0:Nat)(z:List D)(env:List AV)(s:gU):Bool->Option Int->Option Int->Out
 |true,some l,some c=>.need (0<=l/\l<=c/\bytes*c<=2^48/\c<2^62/\k0<=id) (wN id t e [] env s (sat s id))
 |false,some l,some c=>.need (0<=l/\l<=c/\bytes*c<=2^48/\c<2^62/\k0<=id) (EG id t e l.toNat ((List.replicate l.toNat (z.map .d)).flatten) env s (sat s id))
 |_,_,_=>.bad
def H8(id e bytes k0:Nat)(z:List D)(env:List AV)(s:gU):Bool->Option Int->Option Int->Out
 |false,some l,some c=>.need (0<e/\0<=l/\l<=c/\bytes*c<=2^48/\c<2^62/\k0<=id/\(sat s id).jQ=true) (.ok (.kL e id l.toNat) env (sset s id (.lN e l.toNat ((List.replicate l.toNat (z.map .d)).flatten))))
 |_,_,_=>.bad
def Hj(P:Program)(args env:List AV)(s:gU):AV->Out
 |.fn f first cap=>.need (enters P f=true) (.call f (first++args++cap) env s)
 |_=>.bad
def Qq(P:Program)(id k:Nat)(env:List AV)(s:gU):Bool->Out
 |true=>.ok (.mp id) env (sset s id (.mp P k []))
 |false=>.ok (.mp id) (AV.iz (ic id) env) (sset (iW id s) id (.mp P k []))
noncomputable def kA(P:Program)(k0:Nat)(env:List AV)(s:gU):rB->Out
 |.mv x=>.ok (ev env x) env s
 |.pick c a b=>Jw env s (ev env a) (ev env b) (ev env c)
 |.alloc id t z=>.need (k0<=id) (yt id t (z.map .d) env s (sat s id))
 |.box id t x=>J7 id t k0 env s (ev env x).cells
 |.El id _ t x=>J7 id t k0 env s (ev env x).cells
 |.build z ps=>L5 env s (oA env (z.map .d) ps)
 |.pF id t e xs=>Pc id t e k0 env s (AV.lp (xs.map (ev env)))
 |.zC id t e xs=>IP id t e k0 env s (AV.lp (xs.map (ev env)))
 |.Dg id t e xs=>IS id t e k0 env s (AV.lp (xs.map (ev env))) (AV.flat e (xs.map (ev env)))
 |.load n ag p=>DS n ag env s (ev env p)
 |.store n p x=>CV n env s (ev env x) (ev env p)
 |.nV x=>SU env s (ev env x)
 |.bin op x y=>O9 op env s (ev env x) (ev env y)
 |.Df neg x y=>IL neg env s (ev env x) (ev env y)
 |.tN neg x=>Ep neg env s (ev env x) (yu (ev env x))
 |.un op x=>Yj env s op (ev env x)
 |.zS f first cap=>.ok (.fn f (first.map (ev env)) (cap.map (ev env))) env s
 |.xM id _ e bytes z tok len cap=>H8 id e bytes k0 z env s tok (jL (ev env len)) (jL (ev env cap))
 |.yC id t e bytes z tok len cap=>Jk id t e bytes k0 z env s tok (jL (ev env len)) (jL (ev env cap))
 |.slc x e lo hi mx=>K7 (ev env x) e env s lo hi mx
 |.EV p e n lo hi mx=>JM e n env s (ev env p) lo hi mx
 |.OV off p=>Vp off env s (ev env p)
 |.tg e x i=>P9 e env s (ev env x) (jL (ev env i))
 |.wH e n p i=>RN e n env s (jL (ev env i)) (ev env p)
 |.len x=>HR env s (ev env x)
 |.app id t e bytes x y=>J3 id t e bytes k0 (ev env x) env s (qt (ev env y))
 |.De id t e bytes x y=>BZ id t e bytes k0 (ev env x) env s (qt (ev env y))
 |.me f args=>.call f (args.map (ev env)) env s
 |.mz g args=>Hj P (args.map (ev env)) env s (ev env g)
 |.ext x i=>TJ i env s (ev env x)
 |.min x y=>BF false env s (ev env x) (ev env y)
 |.Da _=>.bad
 |.CT x e y=>N5 e k0 env s (ev env x) (jL (ev env y))
 |.zT t x=>Nq t env s (ev env x)
 |.dead=>.bad
theorem NG(ρ:Nat->Option Nat):∀z:List D,AV.iz ρ (z.map .d)=z.map .d
 |[]=>rfl
 |x::xs=>by simp only[aN,AV.iz,AV.jW,NG ρ xs]
theorem Aa(ρ:Nat->Option Nat):∀z:List AV,AV.iz ρ z=z.map (AV.jW ρ)
 |[]=>rfl
 |x::xs=>by simp only[aN,AV.iz,Aa ρ xs]
theorem Fs{P:Program}{k0 id t e bytes:Nat}{x y:AV}{env:List AV}{s:gU}{K:AV->List AV->gU->Prop}(h:runK P k0 K (J3 id t e bytes k0 x env s (qt y))):
 J2 id t e bytes k0 x y env s K:=by
 unfold J2;cases hs:qt y with
 |none=>rw[hs]at h;exact h.elim
 |some p=>
  obtain⟨e2,ys⟩:=p;rw[hs]at h;simp only[J3,Fp]at h⊢;split at h
  ·simp only[runK,IK]at h;exact⟨h.1.1,h.1.2,h.2.1.1,h.2.1.2,h.2.2⟩
  ·rename_i e' j n;simp only[runK]at h;refine⟨h.1.1,h.1.2,?_⟩;have h:=h.2;cases hq:sat s j<;>simp only[hq,LY,runK]at h⊢
   exact⟨h.1.1,h.1.2.1,h.1.2.2.1,h.1.2.2.2,h.2⟩
  ·simp only[runK]at h;refine⟨h.1.1,h.1.2.1,h.1.2.2,?_⟩;have h:=h.2;cases hq:sat s id<;>simp only[hq,wN,runK,Ob.jQ,aB,aj,aF]at h⊢<;>exact h
  ·simp only[runK]at h;exact⟨h.1.1,h.1.2.1,h.1.2.2,h.2⟩
  ·exact h.elim
theorem J5{P:Program}{k0 id t e bytes:Nat}{x y:AV}{env:List AV}{s:gU}{K:AV->List AV->gU->Prop}(h:runK P k0 K (BZ id t e bytes k0 x env s (qt y))):
 Ft id t e bytes k0 x y env s K:=by
 unfold Ft;split
 ·rename_i e2 ys e4 hs;rw[hs]at h;simp only[BZ,Av,runK]at h;refine⟨h.1.1,h.1.2.1,?_⟩;unfold uP;refine⟨h.1.2.2,?_⟩;have h:=h.2;cases hq:sat s id<;>simp only[hq,zU,runK,Ob.jQ,aB,aj,aF]at h⊢<;>exact h
 ·rename_i hn;refine Fs (P:=P) ?_;cases hs:qt y with
  |none=>rw[hs]at h;exact h
  |some p=>
   obtain⟨e2,ys⟩:=p;rw[hs]at h;simp only[BZ]at h;unfold Av at h;split at h
   ·rename_i e4;exact absurd rfl (hn e2 ys e4 hs)
   ·exact h
theorem GM{P:Program}{k0:Nat}{m:rB}{env:List AV}{s:gU}{K:AV->List AV->gU->Prop}(h:runK P k0 K (kA P k0 env s m)):qA P k0 m env s K:=by
 cases m with
 |mv x=>exact h
 |pick c a b=>
  simp only[kA,Jw,qA]at h⊢;split at h
  ·rename_i t ht;try rw[ht]
   simpa[Br,runK]using h
  ·exact h.elim
 |alloc id t z=>
  simp only[kA,runK,qA,uP]at h⊢;refine⟨h.1,?_⟩;cases hs:sat s id<;>simp only[hs,yt,runK,Ob.jQ,aB,aj,aF,NG]at h⊢<;>exact h.2
 |El id d t x=>
  simp only[kA,qA]at h⊢;cases hc:(ev env x).cells with
  |none=>rw[hc]at h;exact h.elim
  |some cs=>
   rw[hc]at h;simp only[J7,runK,uP]at h⊢;refine⟨h.1,?_⟩;cases hs:sat s id<;>simp only[hs,yt,runK,Ob.jQ,aB,aj,aF,Aa]at h⊢
   ·simpa using h.2
   all_goals exact h.2
 |box id t x=>
  simp only[kA,qA]at h⊢;cases hc:(ev env x).cells with
  |none=>rw[hc]at h;exact h.elim
  |some cs=>
   rw[hc]at h;simp only[J7,runK,uP]at h⊢;refine⟨h.1,?_⟩;cases hs:sat s id<;>simp only[hs,yt,runK,Ob.jQ,aB,aj,aF,Aa]at h⊢
   ·simpa using h.2
   all_goals exact h.2
 |build z ps=>
  simp only[kA,qA]at h⊢;cases hc:oA env (z.map .d) ps with
  |none=>rw[hc]at h;exact h.elim
  |some cs=>rw[hc]at h;exact h
 |pF id t e xs=>
  simp only[kA,qA]at h⊢;cases hc:AV.lp (xs.map (ev env))with
  |none=>rw[hc]at h;exact h.elim
  |some ds=>
   rw[hc]at h;simp only[Pc,runK,uP]at h⊢;refine⟨h.1.1,h.1.2,?_⟩;cases hs:sat s id<;>simp only[hs,wN,runK,Ob.jQ,aB,aj,aF]at h⊢<;>exact h.2
 |zC id t e xs=>
  simp only[kA,qA]at h⊢;cases hc:AV.lp (xs.map (ev env))with
  |none=>rw[hc]at h;exact h.elim
  |some ds=>
   rw[hc]at h;simp only[IP,runK,uP]at h⊢;refine⟨h.1.1,h.1.2,?_⟩;cases hs:sat s id<;>simp only[hs,zU,runK,Ob.jQ,aB,aj,aF]at h⊢<;>exact h.2
 |load n ag p=>
  simp only[kA,qA,qL]at h⊢;cases hp:ev env p with
  |ptr id off=>
   rw[hp]at h;simp only[DS]at h⊢;cases hs:sat s id<;>rw[hs]at h<;>simp only[HS,runK]at h⊢
   cases ag<;>exact h
  |pv cs=>rw[hp]at h;simp only[DS,runK]at h⊢;cases ag<;>exact h
  |kP id kk off=>
   rw[hp]at h;simp only[DS]at h⊢;cases hs:sat s id<;>rw[hs]at h<;>simp only[HT,runK]at h⊢
   ·cases ag<;>exact⟨h.1.1,h.1.2,h.2⟩
   ·exact⟨h.1.1,h.1.2.1,h.1.2.2.1,h.1.2.2.2.1,h.1.2.2.2.2,h.2⟩
  |_=>rw[hp]at h;exact h.elim
 |store n p x=>
  simp only[kA,qA,EZ]at h⊢;cases hp:ev env p with
  |ptr id off=>
   rw[hp]at h;simp only[CV]at h⊢;cases hs:sat s id<;>rw[hs]at h<;>cases hc:(ev env x).cells<;>rw[hc]at h<;>simp only[E1,runK]at h⊢
   exact⟨h.1.1,h.1.2,h.2⟩
  |kP id kk off=>
   rw[hp]at h;simp only[CV]at h⊢;cases hs:sat s id<;>rw[hs]at h<;>simp only at h⊢
   case kO=>cases hc:(ev env x).fin<;>rw[hc]at h<;>simp only[BM,runK]at h⊢<;>exact⟨h.1.1,h.1.2.1,h.1.2.2,h.2⟩
   case lN e1 m1 cs1=>
    have h:runK P k0 K (BN n kk off id e1 m1 cs1 env s (ev env x).cells):=by cases hc:(ev env x).fin<;>rw[hc]at h<;>exact h
    cases hc:(ev env x).cells<;>rw[hc]at h<;>simp only[BN,runK]at h⊢
    exact⟨h.1.1,h.1.2.1,h.1.2.2.1,h.1.2.2.2.1,h.1.2.2.2.2,h.2⟩
   all_goals(cases hc:(ev env x).fin<;>rw[hc]at h<;>simp only[BM,runK]at h)
  |_=>rw[hp]at h;exact h.elim
 |nV x=>
  simp only[kA,qA]at h⊢;cases hp:ev env x<;>rw[hp]at h<;>first|exact h|exact h.elim
 |bin op x y=>
  simp only[kA,qA,O8,O9]at h⊢;split at h
  ·rename_i k a k' b h1 h2;try rw[h1,h2]
   simp only[runK]at h;refine⟨h.1,?_⟩;have h:=h.2;cases op<;>exact h
  ·rename_i a b h1 h2;try rw[h1,h2]
   cases op<;>first|exact h|exact h.elim
  ·exact h.elim
 |Df neg x y=>
  simp only[kA,qA,IL]at h⊢;split at h
  ·rename_i a b h1 h2;try rw[h1,h2]
   cases neg<;>exact h
  ·exact h.elim
 |tN neg x=>
  simp only[kA,qA]at h⊢;cases hc:yu (ev env x)with
  |none=>
   rw[hc]at h;simp only[Ep]at h;cases hs:qt (ev env x)with
   |none=>rw[hs]at h;exact h.elim
   |some p=>rw[hs]at h;cases neg<;>exact h
  |some b=>rw[hc]at h;cases neg<;>exact h
 |un op x=>
  simp only[kA,qA,Yj]at h⊢;split at h
  ·rename_i b h1;(try rw[h1]);exact h
  ·rename_i k n h1;(try rw[h1]);exact h
  ·exact h.elim
 |zS f first cap=>exact h
 |xM id t e bytes z tok len cap=>
  simp only[kA,qA]at h⊢;generalize jL (ev env len)=X at h⊢;generalize jL (ev env cap)=Y at h⊢;cases tok<;>cases X<;>cases Y<;>simp only[H8,runK]at h⊢<;>first
   |exact⟨trivial,h.1.1,h.1.2.1,h.1.2.2.1,h.1.2.2.2.1,h.1.2.2.2.2.1,h.1.2.2.2.2.2.1,h.1.2.2.2.2.2.2,h.2⟩
   |exact h
 |yC id t e bytes z tok len cap=>
  simp only[kA,qA]at h⊢;cases h1:jL (ev env len)<;>cases h2:jL (ev env cap)<;>cases tok<;>rw[h1,h2]at h<;>simp only[Jk,runK]at h⊢
  ·obtain⟨⟨a1,a2,a3,a4,a5⟩,h⟩:=h;refine⟨a1,a2,a3,a4,a5,?_⟩;cases hs:sat s id<;>simp only[hs,EG,runK,Ob.jQ,aB,aj,aF]at h⊢<;>exact h
  ·obtain⟨⟨a1,a2,a3,a4,a5⟩,h⟩:=h;refine⟨a1,a2,a3,a4,a5,?_⟩;cases hs:sat s id<;>simp only[hs,wN,runK,Ob.jQ,aB,aj,aF]at h⊢<;>exact h
 |slc x e lo hi mx=>
  simp only[kA,qA]at h⊢;cases mx with
  |some m=>
   simp only[K7]at h;cases lo with
   |some _=>cases hi<;>exact h.elim
   |none=>
    cases hi with
    |none=>exact h.elim
    |some hh=>
     simp only[Yd]at h;cases h1:jL (ev env hh)with
     |none=>rw[h1]at h;exact h.elim
     |some hv=>
      cases h2:jL (ev env m)with
      |none=>rw[h1,h2]at h;exact h.elim
      |some mv=>
       cases hs:qt (ev env x)with
       |none=>rw[h1,h2,hs]at h;exact h.elim
       |some p=>
        obtain⟨e',xs⟩:=p;rw[h1,h2,hs]at h;simp only[UK,runK]at h;obtain⟨⟨k1,rfl,k2,k3⟩,k4⟩:=h;exact⟨rfl,hh,hv,rfl,h1,h2,k1,k2,k3,k4⟩
  |none=>
   simp only[K7]at h;cases hs:qt (ev env x)with
   |none=>rw[hs]at h;exact h.elim
   |some p=>
    obtain⟨e',xs⟩:=p;rw[hs]at h;simp only[JO]at h⊢;split at h
    ·rename_i l hh h1 h2;simp only[runK]at h;refine⟨h.1.1,?_⟩;unfold Q3;rw[hs,h1,h2];exact⟨h.1.2.1,h.1.2.2.1,h.1.2.2.2,h.2⟩
    ·exact h.elim
 |EV p e n lo hi mx=>
  simp only[kA,qA,JM]at h⊢;split at h
  ·rename_i id off h1;(try rw[h1]);exact h
  ·rename_i id off hh h1;try rw[h1]
   split at h
   ·rename_i h' h2;(try simp only[h2]);exact⟨h.1.1,h.1.2,h.2⟩
   ·exact h.elim
  ·exact h.elim
 |OV off p=>
  simp only[kA,qA]at h⊢;cases hp:ev env p<;>rw[hp]at h<;>first|exact h|exact h.elim
 |tg e x i=>
  simp only[kA,qA,P7]at h⊢;cases hi:jL (ev env i)with
  |none=>rw[hi]at h;exact h.elim
  |some n=>
   rw[hi]at h;simp only[P9]at h⊢;cases hx:ev env x<;>rw[hx]at h<;>simp only[Cy]at h⊢<;>first
    |exact⟨h.1.1,h.1.2.1,h.1.2.2,h.2⟩
    |(
     split
     ·rename_i e' xs hs;rw[hs]at h;exact⟨h.1.1,h.1.2.1,h.1.2.2,h.2⟩
     ·rename_i hs;rw[hs]at h;exact h.elim)
 |wH e n p i=>
  simp only[kA,qA]at h⊢;cases hi:jL (ev env i)<;>cases hp:ev env p<;>rw[hi,hp]at h<;>first|exact⟨h.1.1,h.1.2,h.2⟩|exact h.elim
 |len x=>
  simp only[kA,qA]at h⊢;cases hx:ev env x<;>rw[hx]at h<;>simp only[HR]at h⊢<;>first
   |exact h
   |(
    split
    ·rename_i e' xs hs;rw[hs]at h;exact h
    ·rename_i hs;rw[hs]at h;exact h.elim)
 |app id t e bytes x y=>exact Fs h
 |Dg id t e xs=>
  simp only[kA,qA,L3]at h⊢;generalize AV.lp (xs.map (ev env))=X at h⊢;generalize AV.flat e (xs.map (ev env))=Y at h⊢;unfold IS at h;split at h
  ·simp only[runK]at h;refine⟨h.1.1,h.1.2.1,h.1.2.2,?_⟩;have h:=h.2;cases hs:sat s id<;>simp only[hs,EH,runK,Ob.jQ,aB,aj,aF,Aa]at h⊢<;>first|exact h|simpa using h
  ·exact h.elim
 |De id t e bytes x y=>exact J5 h
 |me f args=>exact h
 |mz g args=>
  simp only[kA,qA,Hj]at h⊢;split at h
  ·rename_i f first cap h1;(try rw[h1]);exact h
  ·exact h.elim
 |ext x i=>
  simp only[kA,qA,TJ]at h⊢;split at h
  ·rename_i cs h1;(try rw[h1]);exact h
  ·exact h.elim
 |min x y=>
  simp only[kA,qA,BF]at h⊢;split at h
  ·rename_i k a k' b h1 h2;(try rw[h1,h2]);exact h
  ·exact h.elim
 |Da x=>exact h
 |zT t x=>
  simp only[kA,qA]at h⊢;generalize ev env x=X at h⊢;unfold Nq at h;split at h
  ·exact⟨rfl,h⟩
  ·exact h.elim
 |CT x e y=>
  simp only[kA,qA]at h⊢;generalize ev env x=X at h⊢;generalize jL (ev env y)=Y at h⊢;cases X<;>cases Y<;>simp only[N5]at h⊢<;>first
   |exact h.elim
   |(rename_i e1 j n hv;simp only[runK]at h;obtain⟨he,h⟩:=h;unfold QJ;cases hs:sat s j<;>rw[hs]at h<;>simp only[Ig,runK]at h⊢<;>first|exact h.elim|exact⟨he,h.1.1,h.1.2.1,h.1.2.2.1,h.1.2.2.2.1,h.1.2.2.2.2,h.2⟩)
 |dead=>exact h
def lK(P:Program)(k0 f:Nat)(args env:List AV)(s:gU)(d:Option Nat)(R:List AV->gU->Prop):Prop:=
 A4 P k0 f args env s fun x env s=>R (iI d env x) s
def lW(P:Program)(k0:Nat)(R:List AV->gU->Prop)(d:Option Nat):Out->Prop
 |.ok x env s=>R (iI d env x) s
 |.need p o=>p/\lW P k0 R d o
 |.br b o1 o2=>if b=true then lW P k0 R d o1 else lW P k0 R d o2
 |.call f args env s=>lK P k0 f args env s d R
 |.OZ p o1 o2=>(p->lW P k0 R d o1)/\lW P k0 R d o2
 |.bad=>False
def Bj(P:Program)(k0:Nat)(R:List AV->gU->Prop)(d:Option Nat)(b:Bool)(o1 o2:Out):Prop:=
 if b=true then lW P k0 R d o1 else lW P k0 R d o2
theorem Rk{P:Program}{k0:Nat}{R:List AV->gU->Prop}{d:Option Nat}{b:Bool}{o1 o2:Out}:lW P k0 R d (.br b o1 o2)=Bj P k0 R d b o1 o2:=(rfl)
theorem Ve{P:Program}{k0:Nat}{R:List AV->gU->Prop}{d:Option Nat}{o1 o2:Out}:Bj P k0 R d true o1 o2=lW P k0 R d o1:=by simp[Bj]
theorem Vd{P:Program}{k0:Nat}{R:List AV->gU->Prop}{d:Option Nat}{o1 o2:Out}:Bj P k0 R d false o1 o2=lW P k0 R d o2:=by simp[Bj]
def vi(P:Program)(k0:Nat)(K:List AV->gU->Prop):List iw->List AV->gU->Prop
 |[],env,s=>K env s
 |m::ms,env,s=>match m.guard with
  |none=>lW P k0 (vi P k0 K ms) m.dst (kA P k0 env s m.op)
  |some (g,want)=>match g with
   |none=>vi P k0 K ms (iI m.dst env (.lE [])) s
   |some d=>match env.getD d .gW with
    |.d (.lit (.bool b))=>if b=want then lW P k0 (vi P k0 K ms) m.dst (kA P k0 env s m.op)else vi P k0 K ms (iI m.dst env (.lE [])) s
    |.lE []=>vi P k0 K ms (iI m.dst env (.lE [])) s
    |_=>False
def yP(P:Program)(k0:Nat)(K:List AV->gU->Prop)(b want:Bool)(m:rB)(d:Option Nat)(ms:List iw)(env:List AV)(s:gU):Prop:=
 if b=want then lW P k0 (vi P k0 K ms) d (kA P k0 env s m)else vi P k0 K ms (iI d env (.lE [])) s
section
variable{P:Program}{k0:Nat}{K:List AV->gU->Prop}{b want:Bool}{m:rB}{d:Option Nat}{ms:List iw}{env:List AV}{s:gU}
theorem Tg:yP P k0 K true true m d ms env s=lW P k0 (vi P k0 K ms) d (kA P k0 env s m):=by simp[yP]
theorem Td:yP P k0 K false false m d ms env s=lW P k0 (vi P k0 K ms) d (kA P k0 env s m):=by simp[yP]
theorem Tf:yP P k0 K true false m d ms env s=vi P k0 K ms (iI d env (.lE [])) s:=by simp[yP]
theorem Te:yP P k0 K false true m d ms env s=vi P k0 K ms (iI d env (.lE [])) s:=by simp[yP]
def UQ(P:Program)(k0:Nat)(K:List AV->gU->Prop)(want:Bool)(m:rB)(d:Option Nat)(ms:List iw)(env:List AV)(s:gU):AV->Prop
 |.d (.lit (.bool b))=>yP P k0 K b want m d ms env s
 |.lE []=>vi P k0 K ms (iI d env (.lE [])) s
 |_=>False
theorem Rj:vi P k0 K [] env s=K env s:=(rfl)
theorem Lj:vi P k0 K (⟨d,m,none⟩::ms) env s=lW P k0 (vi P k0 K ms) d (kA P k0 env s m):=(rfl)
theorem Li{g:Nat}:vi P k0 K (⟨d,m,some (some g,want)⟩::ms) env s=UQ P k0 K want m d ms env s (env.getD g .gW):=by
 simp only[vi];split
 ·rename_i b h;rw[h];rfl
 ·rename_i h;rw[h];rfl
 ·rename_i h h';unfold UQ;split
  ·rename_i b h2;exact absurd h2 (h b)
  ·rename_i h2;exact absurd h2 h'
  ·rfl
theorem Rl{R:List AV->gU->Prop}{x:AV}:lW P k0 R d (.ok x env s)=R (iI d env x) s:=(rfl)
theorem Ln{R:List AV->gU->Prop}{p:Prop}{o:Out}:lW P k0 R d (.need p o)=(p/\lW P k0 R d o):=(rfl)
def tw(P:Program)(k0:Nat)(R:List AV->gU->Prop)(d:Option Nat)(p:Prop)(o1 o2:Out):Prop:=(p->lW P k0 R d o1)/\lW P k0 R d o2
theorem tw.of{P:Program}{k0:Nat}{R:List AV->gU->Prop}{d:Option Nat}{p:Prop}{o1 o2:Out}(h1:p->lW P k0 R d o1)(h2:lW P k0 R d o2):tw P k0 R d p o1 o2:=⟨h1,h2⟩
theorem Oz{R:List AV->gU->Prop}{p:Prop}{o1 o2:Out}:lW P k0 R d (.OZ p o1 o2)=tw P k0 R d p o1 o2:=(rfl)
theorem Lm{R:List AV->gU->Prop}{f:Nat}{args:List AV}:lW P k0 R d (.call f args env s)=lK P k0 f args env s d R:=(rfl)
end
theorem ug{P:Program}{k0:Nat}{R:List AV->gU->Prop}{d:Option Nat}{K:AV->List AV->gU->Prop}(hK:∀x env s,R (iI d env x) s->K x env s):
 ∀{o:Out},lW P k0 R d o->runK P k0 K o
 |.ok x env s=>fun h=>hK x env s h
 |.need p o=>fun h=>⟨h.1,ug hK h.2⟩
 |.br b o1 o2=>fun h=>by
  cases b with
  |true=>simp only[lW,aB]at h;simp only[runK,aB];exact ug hK h
  |false=>simp only[lW,aj,aF]at h;simp only[runK,aj,aF];exact ug hK h
 |.call _ _ _ _=>fun h=>Hh (K:=fun x env s=>R (iI d env x) s) h fun x env s=>hK x env s
 |.OZ p o1 o2=>fun h=>⟨fun hp=>ug hK (h.1 hp),ug hK h.2⟩
 |.bad=>fun h=>h
theorem nS{P:Program}{k0:Nat}{K:List AV->gU->Prop}:∀{ms:List iw}{env:List AV}{s:gU},vi P k0 K ms env s->sS P k0 ms env s K
 |[],env,s=>fun h=>h
 |m::ms,env,s=>fun h=>by
  have step:lW P k0 (vi P k0 K ms) m.dst (kA P k0 env s m.op)->qA P k0 m.op env s fun x env s=>sS P k0 ms (iI m.dst env x) s K:=
   fun h=>GM (ug (fun _ _ _ h=>nS h) h)
  simp only[vi,sS]at h⊢;split
  ·rename_i hg;rw[hg]at h;exact step h
  ·rename_i g want hg;rw[hg]at h;cases g with
   |none=>exact nS h
   |some d=>
    simp only at h⊢;split
    ·rename_i b hb;rw[hb]at h;unfold Br;simp only at h;split
     ·rename_i hbw;rw[ah hbw]at h;exact step h
     ·rename_i hbw;rw[ak hbw]at h;exact nS h
    ·rename_i hb;rw[hb]at h;exact nS h
    ·rename_i hb hb';split at h
     ·rename_i b h2;exact absurd h2 (hb b)
     ·rename_i h2;exact absurd h2 hb'
     ·exact h
theorem Zs{P:Program}{k:Nat}{Q:Post}{env:List AV}{s:gU}{ms:List iw}(h:vi P k (Q .normal) ms env s):ng P k (.gQ ms) Q env s:=Wx (nS h)
theorem M8{e id off n:Nat}{env:List AV}{s:gU}:HR env s (.oX e id off n)=.ok (.d (iD n)) env s:=(rfl)
theorem TZ{x:D}{env:List AV}{s:gU}:HR env s (.d x)=M6 env s (qt (.d x)):=(rfl)
theorem M9{e id:Nat}{xs:List D}{env:List AV}{s:gU}:HR env s (.own e id xs)=.ok (.d (iD xs.length)) env s:=(rfl)
theorem KE{e e' id off len:Nat}{n:Int}{env:List AV}{s:gU}:Cy e n env s (.oX e' id off len)=.need (e'=e/\0<=n/\n<len) (.ok (.ptr id (off+n.toNat*e)) env s):=(rfl)
theorem P_{e:Nat}{n:Int}{x:D}{env:List AV}{s:gU}:Cy e n env s (.d x)=Jd e n env s (qt (.d x)):=(rfl)
theorem M7{e id n:Nat}{env:List AV}{s:gU}:HR env s (.kL e id n)=.ok (.d (iD n)) env s:=(rfl)
theorem KD{e e' id m:Nat}{n:Int}{env:List AV}{s:gU}:Cy e n env s (.kL e' id m)=.need (e'=e/\0<=n/\n<m) (.ok (.kP id m (n.toNat*e)) env s):=(rfl)
theorem KF{e e' id:Nat}{n:Int}{xs:List D}{env:List AV}{s:gU}:Cy e n env s (.own e' id xs)=Jd e n env s (some (e',xs)):=(rfl)
theorem FL{neg b:Bool}{env:List AV}{s:gU}{x:AV}:Ep neg env s x (some b)=.ok (.d (bD (KU neg b))) env s:=(rfl)
theorem FK{neg:Bool}{env:List AV}{s:gU}{x:AV}:Ep neg env s x none=Hw neg env s (qt x):=(rfl)
attribute [go_sem] Qq TU Wt Ob.jQ H8 BN Cv EH IS Qp AV.flat Av BZ zU IP M7 KD UI HT BM LY FL FK Yf Oz Hw Rj Lj Li UQ Rl Ln Lm Rk Ve Vd Tg Td Tf Te yt wN EG JG UH HS DS E1 CV O9 L1 IL KU Yj Jw SU Vp Jd KE P_ KF P9 RN M6 M8 TZ M9 JO UK Yd K7 N5 Ig Nq JM IK Fp J3 TJ BF J7 L5 Pc Jk Hj kA List.drop_zero List.drop_succ_cons List.drop_nil List.take_zero List.take_succ_cons List.take_nil List.headD_cons List.append_nil true_and and_true Nat.zero_add Nat.add_zero if_true if_false Nat.le_refl
inductive qC where
 |ok (x:AV) (δ:List (Nat×Ob))
 |need (p:Prop) (o:qC)
 |br (b:Bool) (o1 o2:qC)
 |call (f:Nat) (args:List AV)
 |bad
def B4(ρ:Operand->AV)(dflt:Int):Option Operand->Option Int
 |none=>some dflt
 |some x=>jL (ρ x)
def rq(ρ:Operand->AV):List AV->List (Nat×Nat×Operand)->Option (List AV)
 |cs,[]=>some cs
 |cs,(off,n,x)::r=>match(ρ x).cells with
  |some xs=>if xs.length=n/\off+n<=cs.length then rq ρ (cs.take off++xs++cs.drop (off+n)) r else none
  |none=>none
def Nf(n:Nat)(ag:Bool)(off:Nat):Ob->qC
 |.obj _ cs=>.need (off+n<=cs.length) (.ok (JG n off cs ag) [])
 |_=>.bad
def Ng(n:Nat)(ag:Bool)(k off:Nat):Ob->qC
 |.kO _ _ m cs=>.need (m=k/\off+n<=cs.length) (.ok (.d (UI n off cs ag)) [])
 |_=>.bad
def Jg(σ:Nat->Ob)(n:Nat)(ag:Bool):AV->qC
 |.ptr id off=>Nf n ag off (σ id)
 |.kP id k off=>Ng n ag k off (σ id)
 |.pv cs=>.need (n<=cs.length) (.ok (.d (UH n cs ag)) [])
 |_=>.bad
def JQ(n off id:Nat):Ob->Option (List AV)->qC
 |.obj t cs,some xs=>.need (xs.length=n/\off+n<=cs.length) (.ok .gW [(id,(.obj t (cs.take off++xs++cs.drop (off+n))))])
 |_,_=>.bad
def JR(n k off id:Nat):Ob->Option D->qC
 |.kO t e m cs,some d=>.need (m=k/\(gT d).length=n/\off+n<=cs.length) (.ok .gW [(id,.kO t e m (cs.take off++gT d++cs.drop (off+n)))])
 |_,_=>.bad
def E0(σ:Nat->Ob)(n:Nat)(x:AV):AV->qC
 |.ptr id off=>JQ n off id (σ id) x.cells
 |.kP id k off=>JR n k off id (σ id) x.fin
 |_=>.bad
def Tt(op:BinOp):AV->AV->qC
 |.d (.lit (.int k a)),.d (.lit (.int k' b))=>.need (Yf op k k')<|match op with
  |.add=>.ok (.d (.lit (.int k (k.wrap (a+b))))) []
  |.sub=>.ok (.d (.lit (.int k (k.wrap (a-b))))) []
  |.mul=>.ok (.d (.lit (.int k (k.wrap (a*b))))) []
  |.quo=>.need (b≠0) (.ok (.d (.lit (.int k (k.wrap (a.tdiv b))))) [])
  |.rem=>.need (b≠0) (.ok (.d (.lit (.int k (a.tmod b)))) [])
  |.eql=>.ok (.d (bD (a==b))) []
  |.neq=>.ok (.d (bD (a != b))) []
  |.lss=>.ok (.d (bD (decide (a<b)))) []
  |.leq=>.ok (.d (bD (decide (a<=b)))) []
  |.gtr=>.ok (.d (bD (decide (b<a)))) []
  |.geq=>.ok (.d (bD (decide (b<=a)))) []
  |.and=>.ok (.d (.lit (.int k (O0 k a b)))) []
  |.or=>.ok (.d (.lit (.int k (Yh k a b)))) []
  |.xor=>.ok (.d (.lit (.int k (Rn k a b)))) []
  |.andNot=>.ok (.d (.lit (.int k (IJ k a b)))) []
  |.shl=>.need (0<=b) (.ok (.d (.lit (.int k (QX k a b)))) [])
  |.shr=>.need (0<=b) (.ok (.d (.lit (.int k (QY k a b)))) [])
 |.d (.lit (.string a)),.d (.lit (.string b))=>match op with
  |.add=>.need (a.size+b.size<2^63) (.ok (.d (.lit (.string (a++b)))) [])
  |.eql=>.ok (.d (bD (a.toList==b.toList))) []
  |.neq=>.ok (.d (bD (!(a.toList==b.toList)))) []
  |_=>.bad
 |_,_=>.bad
def L0(neg:Bool):AV->AV->qC
 |.d (.lit (.bool a)),.d (.lit (.bool b))=>.ok (.d (bD (L1 neg a b))) []
 |_,_=>.bad
def MK(neg:Bool):Option Bool->qC
 |some b=>.ok (.d (bD (KU neg b))) []
 |none=>.bad
def Z0:UnOp->AV->qC
 |.not,.d (.lit (.bool b))=>.ok (.d (bD (!b))) []
 |.neg,.d (.lit (.int k n))=>.ok (.d (.lit (.int k (k.wrap (0-n))))) []
 |_,_=>.bad
def NA(a b:AV):AV->qC
 |.d (.lit (.bool t))=>.br t (.ok a []) (.ok b [])
 |_=>.bad
def SS:AV->qC
 |.ptr id off=>.ok (.ptr id off) []
 |.pv cs=>.ok (.pv cs) []
 |.fn f a b=>.ok (.fn f a b) []
 |.kP id m off=>.ok (.kP id m off) []
 |_=>.bad
def Vo(off:Nat):AV->qC
 |.ptr id o=>.ok (.ptr id (o+off)) []
 |.pv cs=>.ok (.pv (cs.drop off)) []
 |.kP id k o=>.ok (.kP id k (o+off)) []
 |_=>.bad
def Jc(e:Nat)(n:Int):Option (Nat×List D)->qC
 |some (e',xs)=>.need (e'=e/\0<=n/\n<xs.length) (.ok (.pv (gT (xs.getD n.toNat .any))) [])
 |none=>.bad
def F6(e:Nat)(n:Int):AV->qC
 |.oX e' id off len=>.need (e'=e/\0<=n/\n<len) (.ok (.ptr id (off+n.toNat*e)) [])
 |.kL e' id m=>.need (e'=e/\0<=n/\n<m) (.ok (.kP id m (n.toNat*e)) [])
 |x=>Jc e n (qt x)
def TT(e:Nat)(x:AV):Option Int->qC
 |some n=>F6 e n x
 |none=>.bad
def RM(e n:Nat):Option Int->AV->qC
 |some j,.ptr id off=>.need (0<=j/\j<n) (.ok (.ptr id (off+j.toNat*e)) [])
 |some j,.pv cs=>.need (0<=j/\j<n) (.ok (.pv (cs.drop (j.toNat*e))) [])
 |_,_=>.bad
def M5:Option (Nat×List D)->qC
 |some (_,xs)=>.ok (.d (iD xs.length)) []
 |none=>.bad
def TX:AV->qC
 |.oX _ _ _ n=>.ok (.d (iD n)) []
 |.kL _ _ n=>.ok (.d (iD n)) []
 |x=>M5 (qt x)
def JN(ρ:Operand->AV)(x:AV)(e:Nat)(lo:Option Int)(hi:Option Operand):Option (Nat×List D)->qC
 |some (e',xs)=>match lo,B4 ρ xs.length hi with
  |some l,some h=>.need ((xs=[]\/e'=e)/\0<=l/\l<=h/\h<=xs.length) (.ok (.d (.sl e' (yu x) ((xs.take h.toNat).drop l.toNat))) [])
  |_,_=>.bad
 |none=>.bad
def S7(e:Nat):Option Operand->Option Int->Option Int->Option (Nat×List D)->qC
 |none,some h,some m,some (e',xs)=>.need ((xs=[]\/e'=e)/\h=m/\0<=h/\h<=xs.length) (.ok (.BC e' (xs.take h.toNat)) [])
 |_,_,_,_=>.bad
def Yc(ρ:Operand->AV):Option Operand->Option Int
 |some h=>jL (ρ h)
 |none=>none
def K6(ρ:Operand->AV)(x:AV)(e:Nat)(lo hi:Option Operand):Option Operand->qC
 |none=>JN ρ x e (B4 ρ 0 lo) hi (qt x)
 |some m=>S7 e lo (Yc ρ hi) (jL (ρ m)) (qt x)
def JL(ρ:Operand->AV)(e n:Nat):AV->Option Operand->Option Operand->Option Operand->qC
 |.ptr id off,none,none,none=>.ok (.oX e id off n) []
 |.ptr id off,none,some h,none=>match jL (ρ h)with
  |some h=>.need (0<=h/\h<=n) (.ok (.oX e id off h.toNat) [])
  |none=>.bad
 |_,_,_,_=>.bad
def LX(t e bytes:Nat)(j:Nat)(xs ys:List D)(ob:Ob):qC:=
 .need (ob=.tok t e xs.length/\(xs.length+ys.length)*bytes<=2^47) (.ok (.own e j (xs++ys)) [(j,(.tok t e (xs.length+ys.length)))])
def Ru(t e bytes:Nat)(j n:Nat)(ys:List D):Ob->qC
 |.kO t' e2 m cs=>.need (t'=t/\e2=e/\m=n/\(n+ys.length)*bytes<=2^47) (.ok (.kL e j (n+ys.length)) [(j,.kO t e (n+ys.length) (cs++ys.flatMap gT))])
 |_=>.bad
def BW(σ:Nat->Ob)(id t e bytes k0:Nat)(e2:Nat)(ys:List D):AV->qC
 |.own e' j xs=>.need ((ys=[]\/e2=e)/\e'=e) (LX t e bytes j xs ys (σ j))
 |.kL e' j n=>.need ((ys=[]\/e2=e)/\e'=e) (Ru t e bytes j n ys (σ j))
 |.d (.sl _ (some true) [])=>.need ((ys=[]\/e2=e)/\ys.length*bytes<=2^47/\k0<=id/\(σ id).jQ=true) (.ok (.own e id ys) [(id,.tok t e ys.length)])
 |.BC e' xs=>.need ((ys=[]\/e2=e)/\e'=e/\(xs.length+ys.length)*bytes<=2^47) (.ok (.d (.sl e none (xs++ys))) [])
 |_=>.bad
def G2(σ:Nat->Ob)(id t e bytes k0:Nat)(x:AV):Option (Nat×List D)->qC
 |some (e2,ys)=>BW σ id t e bytes k0 e2 ys x
 |none=>.bad
def Eh(σ:Nat->Ob)(id t e bytes k0:Nat)(e2:Nat)(ys:List D):AV->qC
 |.d (.sl _ (some true) [])=>.need ((ys=[]\/e2=e)/\ys.length*bytes<=2^47/\k0<=id/\(σ id).jQ=true) (.ok (.kL e id ys.length) [(id,.kO t e ys.length (ys.flatMap gT))])
 |x=>BW σ id t e bytes k0 e2 ys x
def Fu(σ:Nat->Ob)(id t e bytes k0:Nat)(x:AV):Option (Nat×List D)->qC
 |some (e2,ys)=>Eh σ id t e bytes k0 e2 ys x
 |none=>.bad
def Vn(i:Nat):AV->qC
 |.lE cs=>.need (i<cs.length) (.ok (cs.getD i .gW) [])
 |_=>.bad
def EF(mx:Bool):AV->AV->qC
 |.d (.lit (.int k a)),.d (.lit (.int k' b))=>.need (k=k') (.ok (.d (.lit (.int k (match mx with|true=>if b>a then b else a|false=>if b<a then b else a)))) [])
 |_,_=>.bad
def Pa(σ:Nat->Ob)(id t k0:Nat):Option (List AV)->qC
 |some cs=>.need (k0<=id/\(σ id).jQ=true) (.ok (.ptr id 0) [(id,.obj t cs)])
 |none=>.bad
def L4:Option (List AV)->qC
 |some cs=>.ok (AV.mk cs) []
 |none=>.bad
def Pb(σ:Nat->Ob)(id t e k0:Nat):Option (List D)->qC
 |some ds=>.need ((∀d∈ds,(gT d).length=e)/\k0<=id/\(σ id).jQ=true) (.ok (.own e id ds) [(id,.tok t e ds.length)])
 |none=>.bad
def IQ(σ:Nat->Ob)(id t e k0:Nat):Option (List D)->Option (List AV)->qC
 |some ds,some cs=>.need ((∀d∈ds,(gT d).length=e)/\uF cs=true/\k0<=id/\(σ id).jQ=true) (.ok (.own e id ds) [(id,.od t e ds.length cs)])
 |_,_=>.bad
def IM(σ:Nat->Ob)(id t e k0:Nat):Option (List D)->qC
 |some ds=>.need ((∀d∈ds,(gT d).length=e)/\k0<=id/\(σ id).jQ=true) (.ok (.kL e id ds.length) [(id,.kO t e ds.length (ds.flatMap gT))])
 |none=>.bad
def Jj(σ:Nat->Ob)(id t e bytes k0:Nat)(z:List D):Bool->Option Int->Option Int->qC
 |true,some l,some c=>.need (0<=l/\l<=c/\bytes*c<=2^48/\c<2^62/\k0<=id/\(σ id).jQ=true) (.ok (.own e id []) [(id,.tok t e 0)])
 |false,some l,some c=>.need (0<=l/\l<=c/\bytes*c<=2^48/\c<2^62/\k0<=id/\(σ id).jQ=true) (.ok (.oX e id 0 l.toNat) [(id,.obj t ((List.replicate l.toNat (z.map .d)).flatten))])
 |_,_,_=>.bad
def Mz(P:Program)(args:List AV):AV->qC
 |.fn f first cap=>.need (enters P f=true) (.call f (first++args++cap))
 |_=>.bad
def kM(P:Program)(k0:Nat)(ρ:Operand->AV)(σ:Nat->Ob):rB->qC
 |.mv x=>.ok (ρ x) []
 |.pick c a b=>NA (ρ a) (ρ b) (ρ c)
 |.alloc id t z=>.need (k0<=id/\(σ id).jQ=true) (.ok (.ptr id 0) [(id,.obj t (z.map .d))])
 |.box id t x=>Pa σ id t k0 (ρ x).cells
 |.El _ _ _ _=>.bad
 |.build z ps=>L4 (rq ρ (z.map .d) ps)
 |.pF id t e xs=>Pb σ id t e k0 (AV.lp (xs.map ρ))
 |.zC id t e xs=>IM σ id t e k0 (AV.lp (xs.map ρ))
 |.Dg id t e xs=>IQ σ id t e k0 (AV.lp (xs.map ρ)) (AV.flat e (xs.map ρ))
 |.load n ag p=>Jg σ n ag (ρ p)
 |.store n p x=>E0 σ n (ρ x) (ρ p)
 |.nV x=>SS (ρ x)
 |.bin op x y=>Tt op (ρ x) (ρ y)
 |.Df neg x y=>L0 neg (ρ x) (ρ y)
 |.tN neg x=>MK neg (yu (ρ x))
 |.un op x=>Z0 op (ρ x)
 |.zS f first cap=>.ok (.fn f (first.map ρ) (cap.map ρ)) []
 |.xM _ _ _ _ _ _ _ _=>.bad
 |.yC id t e bytes z tok len cap=>Jj σ id t e bytes k0 z tok (jL (ρ len)) (jL (ρ cap))
 |.slc x e lo hi mx=>K6 ρ (ρ x) e lo hi mx
 |.EV p e n lo hi mx=>JL ρ e n (ρ p) lo hi mx
 |.OV off p=>Vo off (ρ p)
 |.tg e x i=>TT e (ρ x) (jL (ρ i))
 |.wH e n p i=>RM e n (jL (ρ i)) (ρ p)
 |.len x=>TX (ρ x)
 |.app id t e bytes x y=>G2 σ id t e bytes k0 (ρ x) (qt (ρ y))
 |.De id t e bytes x y=>Fu σ id t e bytes k0 (ρ x) (qt (ρ y))
 |.me f args=>.call f (args.map ρ)
 |.mz g args=>Mz P (args.map ρ) (ρ g)
 |.ext x i=>Vn i (ρ x)
 |.min x y=>EF false (ρ x) (ρ y)
 |.Da _|.CT _ _ _|.zT _ _=>.bad
 |.dead=>.bad
def pP(s:gU):List (Nat×Ob)->gU
 |[]=>s
 |(i,ob)::r=>pP (sset s i ob) r
def qC.out(env:List AV)(s:gU):qC->Out
 |.ok x δ=>.ok x env (pP s δ)
 |.need p o=>.need p (o.out env s)
 |.br b o1 o2=>.br b (o1.out env s) (o2.out env s)
 |.call f args=>.call f args env s
 |.bad=>.bad
theorem Fv{env:List AV}{d:Int}{x:Option Operand}:B4 (ev env) d x=B3 env d x:=by cases x<;>rfl
theorem zZ{env:List AV}:∀{ps:List (Nat×Nat×Operand)}{cs:List AV},rq (ev env) cs ps=oA env cs ps
 |[],cs=>rfl
 |(off,n,x)::r,cs=>by
  simp only[rq,oA];cases(ev env x).cells with
  |none=>rfl
  |some xs=>simp only;split<;>simp[zZ]
theorem Fq{P:Program}{k0 id t e bytes:Nat}{x:AV}{Y:Option (Nat×List D)}{env:List AV}{s:gU}{K:AV->List AV->gU->Prop}(h:runK P k0 K ((G2 (sat s) id t e bytes k0 x Y).out env s)):
 runK P k0 K (J3 id t e bytes k0 x env s Y):=by
 have dead:∀{id:Nat},(sat s id).jQ=true->sat s id=.dead:=fun{id} h=>by cases hs:sat s id<;>simp_all[Ob.jQ]
 cases Y with
 |none=>exact h
 |some p=>
  obtain⟨e2,ys⟩:=p;simp only[G2,J3,BW,Fp]at h⊢;split at h
  ·simp only[LX,IK,qC.out,runK,pP]at h⊢;exact h
  ·rename_i e' j n;simp only[qC.out,runK]at h⊢;refine⟨h.1,?_⟩;have h:=h.2;generalize sat s j=X at h⊢;cases X<;>exact h
  ·simp only[qC.out,runK,pP]at h⊢;rw[dead h.1.2.2.2];exact⟨⟨h.1.1,h.1.2.1,h.1.2.2.1⟩,h.2⟩
  ·exact h
  ·exact h.elim
theorem J4{P:Program}{k0 id t e bytes:Nat}{x:AV}{Y:Option (Nat×List D)}{env:List AV}{s:gU}{K:AV->List AV->gU->Prop}(h:runK P k0 K ((Fu (sat s) id t e bytes k0 x Y).out env s)):
 runK P k0 K (BZ id t e bytes k0 x env s Y):=by
 have dead:∀{id:Nat},(sat s id).jQ=true->sat s id=.dead:=fun{id} h=>by cases hs:sat s id<;>simp_all[Ob.jQ]
 cases Y with
 |none=>exact h
 |some p=>
  obtain⟨e2,ys⟩:=p;simp only[Fu,BZ]at h⊢;unfold Eh at h;split at h
  ·simp only[Av,qC.out,runK,pP]at h⊢;rw[dead h.1.2.2.2];exact⟨⟨h.1.1,h.1.2.1,h.1.2.2.1⟩,h.2⟩
  ·rename_i hn;unfold Av;split
   ·rename_i e4;exact absurd rfl (hn e4)
   ·exact Fq (Y:=some (e2,ys)) h
theorem Lf{P:Program}{k0:Nat}{m:rB}{env:List AV}{s:gU}{K:AV->List AV->gU->Prop}
 (h:runK P k0 K ((kM P k0 (ev env) (sat s) m).out env s)):runK P k0 K (kA P k0 env s m):=by
 have dead:∀{id:Nat},(sat s id).jQ=true->sat s id=.dead:=fun{id} h=>by cases hs:sat s id<;>simp_all[Ob.jQ]
 cases m with
 |mv x=>exact h
 |pick c a b=>
  simp only[kM,kA,NA,Jw]at h⊢;generalize ev env c=Xc at h⊢;cases Xc with
  |d x=>cases x with
   |lit u=>cases u<;>exact h
   |_=>exact h
  |_=>exact h
 |alloc id t z=>
  simp only[kM,kA,qC.out,runK,pP]at h⊢;rw[dead h.1.2];exact⟨h.1.1,h.2⟩
 |El id d t x=>simp only[kM]at h;exact h.elim
 |box id t x=>
  simp only[kM,kA]at h⊢;generalize(ev env x).cells=X at h⊢;cases X with
  |none=>exact h
  |some cs=>
   simp only[Pa,J7,qC.out,runK,pP]at h⊢;rw[dead h.1.2];exact⟨h.1.1,h.2⟩
 |build z ps=>
  simp only[kM,kA,zZ]at h⊢;generalize oA env (z.map .d) ps=X at h⊢;cases X<;>exact h
 |pF id t e xs=>
  simp only[kM,kA]at h⊢;generalize AV.lp (xs.map (ev env))=X at h⊢;cases X with
  |none=>exact h
  |some ds=>
   simp only[Pb,Pc,qC.out,runK,pP]at h⊢;rw[dead h.1.2.2];exact⟨⟨h.1.1,h.1.2.1⟩,h.2⟩
 |Dg id t e xs=>
  simp only[kM,kA]at h⊢;generalize AV.lp (xs.map (ev env))=X at h⊢;generalize AV.flat e (xs.map (ev env))=Y at h⊢;cases X with
  |none=>cases Y<;>exact h.elim
  |some ds=>cases Y with
   |none=>exact h.elim
   |some cs=>
    simp only[IQ,IS,qC.out,runK,pP]at h⊢;rw[dead h.1.2.2.2];exact⟨⟨h.1.1,h.1.2.1,h.1.2.2.1⟩,h.2⟩
 |zC id t e xs=>
  simp only[kM,kA]at h⊢;generalize AV.lp (xs.map (ev env))=X at h⊢;cases X with
  |none=>exact h
  |some ds=>
   simp only[IM,IP,qC.out,runK,pP]at h⊢;rw[dead h.1.2.2];exact⟨⟨h.1.1,h.1.2.1⟩,h.2⟩
 |load n ag p=>
  simp only[kM,kA,Jg,DS]at h⊢;generalize ev env p=Xp at h⊢;cases Xp with
  |ptr id off=>simp only at h⊢;generalize sat s id=X at h⊢;cases X<;>exact h
  |kP id kk off=>simp only at h⊢;generalize sat s id=X at h⊢;cases X<;>first|exact h|exact h.elim
  |_=>exact h
 |store n p x=>
  simp only[kM,kA,E0,CV]at h⊢;generalize ev env p=Xp at h⊢;cases Xp with
  |ptr id off=>simp only at h⊢;generalize sat s id=X at h⊢;generalize(ev env x).cells=Y at h⊢;cases X<;>cases Y<;>exact h
  |kP id kk off=>simp only at h⊢;generalize sat s id=X at h⊢;generalize(ev env x).fin=Y at h⊢;cases X<;>cases Y<;>first|exact h|exact h.elim
  |_=>exact h
 |nV x=>simp only[kM,kA]at h⊢;generalize ev env x=X at h⊢;cases X<;>exact h
 |bin op x y=>
  simp only[kM,kA,Tt,O9]at h⊢;generalize ev env x=Xx at h⊢;generalize ev env y=Xy at h⊢;cases Xx with
  |d x1=>cases x1 with
   |lit u=>cases u with
    |int k a=>cases Xy with
     |d y1=>cases y1 with
      |lit v=>cases v with
       |int k' b=>cases op<;>exact h
       |_=>exact h
      |_=>exact h
     |_=>exact h
    |string a=>cases Xy with
     |d y1=>cases y1 with
      |lit v=>cases v with
       |string b=>cases op<;>exact h
       |_=>exact h
      |_=>exact h
     |_=>exact h
    |_=>exact h
   |_=>exact h
  |_=>exact h
 |Df neg x y=>
  simp only[kM,kA,L0,IL]at h⊢;generalize ev env x=Xx at h⊢;generalize ev env y=Xy at h⊢;cases Xx with
  |d x1=>cases x1 with
   |lit u=>cases u with
    |bool a=>cases Xy with
     |d y1=>cases y1 with
      |lit v=>cases v<;>exact h
      |_=>exact h
     |_=>exact h
    |_=>exact h
   |_=>exact h
  |_=>exact h
 |tN neg x=>simp only[kM,kA]at h⊢;generalize yu (ev env x)=X at h⊢;cases X<;>first|exact h|exact h.elim
 |un op x=>
  simp only[kM,kA,Z0,Yj]at h⊢;generalize ev env x=X at h⊢;cases op<;>cases X with
  |d x1=>cases x1 with
   |lit u=>cases u<;>exact h
   |_=>exact h
  |_=>exact h
 |zS f first cap=>exact h
 |xM id t e bytes z tok len cap=>simp only[kM]at h;exact h.elim
 |yC id t e bytes z tok len cap=>
  simp only[kM,kA]at h⊢;generalize jL (ev env len)=X at h⊢;generalize jL (ev env cap)=Y at h⊢;cases tok<;>cases X<;>cases Y<;>simp only[Jj,Jk,qC.out,runK,pP]at h⊢
  ·rw[dead h.1.2.2.2.2.2];exact⟨⟨h.1.1,h.1.2.1,h.1.2.2.1,h.1.2.2.2.1,h.1.2.2.2.2.1⟩,h.2⟩
  ·rw[dead h.1.2.2.2.2.2];exact⟨⟨h.1.1,h.1.2.1,h.1.2.2.1,h.1.2.2.2.1,h.1.2.2.2.2.1⟩,h.2⟩
 |slc x e lo hi mx=>
  simp only[kM,kA]at h⊢;cases mx with
  |some m=>
   simp only[K6,K7]at h⊢;generalize qt (ev env x)=X at h⊢;generalize jL (ev env m)=M at h⊢;cases hi with
   |none=>cases lo<;>cases M<;>cases X<;>exact h
   |some hh=>
    simp only[Yc,Yd]at h⊢;generalize jL (ev env hh)=H at h⊢;cases lo<;>cases H<;>cases M<;>cases X<;>exact h
  |none=>
   simp only[K6,K7,Fv]at h⊢;generalize qt (ev env x)=X at h⊢;cases X with
   |none=>exact h
   |some p=>
    simp only[JN,JO,Fv]at h⊢;generalize B3 env 0 lo=X at h⊢;generalize B3 env p.2.length hi=Y at h⊢;cases X<;>cases Y<;>exact h
 |EV p e n lo hi mx=>
  simp only[kM,kA,JL,JM]at h⊢;generalize ev env p=X at h⊢;cases X<;>cases lo<;>cases hi<;>cases mx<;>first
   |exact h
   |(rename_i q;simp only at h⊢;generalize jL (ev env q)=Z at h⊢;cases Z<;>exact h)
 |OV off p=>simp only[kM,kA]at h⊢;generalize ev env p=X at h⊢;cases X<;>exact h
 |tg e x i=>
  simp only[kM,kA]at h⊢;generalize jL (ev env i)=I at h⊢;cases I with
  |none=>exact h
  |some n=>
   simp only[TT,P9]at h⊢;generalize ev env x=X at h⊢;cases X<;>simp only[F6,Cy]at h⊢<;>first
    |exact h
    |(revert h;generalize qt _=q;intro h;cases q<;>exact h)
 |wH e n p i=>simp only[kM,kA]at h⊢;generalize jL (ev env i)=X at h⊢;generalize ev env p=Y at h⊢;cases X<;>cases Y<;>exact h
 |len x=>
  simp only[kM,kA]at h⊢;generalize ev env x=X at h⊢;cases X<;>simp only[TX,HR]at h⊢<;>first
   |exact h
   |(revert h;generalize qt _=q;intro h;cases q<;>exact h)
 |app id t e bytes x y=>exact Fq h
 |De id t e bytes x y=>exact J4 h
 |me f args=>exact h
 |mz g args=>
  simp only[kM,kA]at h⊢;generalize ev env g=X at h⊢;cases X<;>exact h
 |ext x i=>simp only[kM,kA]at h⊢;generalize ev env x=X at h⊢;cases X<;>exact h
 |min x y=>
  simp only[kM,kA,EF,BF]at h⊢;generalize ev env x=Xx at h⊢;generalize ev env y=Xy at h⊢;cases Xx with
  |d x1=>cases x1 with
   |lit u=>cases u with
    |int k a=>cases Xy with
     |d y1=>cases y1 with
      |lit v=>cases v<;>exact h
      |_=>exact h
     |_=>exact h
    |_=>exact h
   |_=>exact h
  |_=>exact h
 |dead=>exact h
 |_=>exact h.elim
def tL:Operand->List Nat
 |.tmp t=>[t]
 |_=>[]
def zX(xs:List Operand):List Nat:=xs.flatMap tL
def D2:Option Operand->List Nat
 |some x=>tL x
 |none=>[]
def oz:rB->List Nat
 |.mv x|.nV x|.un _ x|.OV _ x|.len x|.ext x _|.box _ _ x|.El _ _ _ x|.load _ _ x|.tN _ x=>tL x
 |.pick c a b=>tL c++tL a++tL b
 |.store _ p x=>tL p++tL x
 |.bin _ x y|.Df _ x y|.min x y|.tg _ x y|.wH _ _ x y|.app _ _ _ _ x y|.De _ _ _ _ x y=>tL x++tL y
 |.yC _ _ _ _ _ _ l c=>tL l++tL c
 |.xM _ _ _ _ _ _ l c=>tL l++tL c
 |.slc x _ lo hi m=>tL x++D2 lo++D2 hi++D2 m
 |.EV x _ _ lo hi _=>tL x++D2 lo++D2 hi
 |.build _ ps=>zX (ps.map (·.2.2))
 |.pF _ _ _ xs|.zC _ _ _ xs|.Dg _ _ _ xs=>zX xs
 |.zS _ f c=>zX f++zX c
 |.me _ xs=>zX xs
 |.mz g xs=>tL g++zX xs
 |.Da x=>tL x
 |.zT _ x=>tL x
 |.CT x _ h=>tL x++tL h
 |.alloc .. |.dead=>[]
def sH(ρ:Operand->AV):rB->List Nat
 |.Dg id _ _ _=>[id]
 |.load _ _ p=>match ρ p with|.ptr id _=>[id]|.kP id _ _=>[id]|_=>[]
 |.store _ p _=>match ρ p with|.ptr id _=>[id]|.kP id _ _=>[id]|_=>[]
 |.De id _ _ _ x _=>match ρ x with|.own _ j _=>[j]|.kL _ j _=>[j]|_=>[id]
 |.alloc id _ _|.box id _ _|.pF id _ _ _|.zC id _ _ _|.yC id _ _ _ _ _ _ _=>[id]
 |.app id _ _ _ x _=>match ρ x with|.own _ j _=>[j]|.kL _ j _=>[j]|_=>[id]
 |_=>[]
theorem BX{k0 id t e bytes:Nat}{X:AV}{p:Option (Nat×List D)}{σ σ':Nat->Ob}
 (hf:∀i∈(match X with|.own _ j _=>[j]|.kL _ j _=>[j]|_=>[id]),σ' i=σ i):G2 σ' id t e bytes k0 X p=G2 σ id t e bytes k0 X p:=by
 unfold G2;cases p with
 |none=>rfl
 |some p=>
  simp only;unfold BW;cases X with
  |own e' j xs=>have hj:=hf j (by simp);simp only[hj]
  |kL e' j n=>have hj:=hf j (by simp);simp only[hj]
  |d x1=>
   have hj:=hf id (by simp);cases x1 with
   |sl e1 nl xs=>cases nl with
    |none=>rfl
    |some b=>cases b<;>cases xs<;>first|rfl|simp only[hj]
   |_=>rfl
  |_=>rfl
theorem Iz{P:Program}{k0:Nat}{m:rB}{ρ ρ':Operand->AV}{σ σ':Nat->Ob}(hc:∀o:Operand,tL o=[]->ρ' o=ρ o)(hr:∀t∈oz m,ρ' (.tmp t)=ρ (.tmp t))
 (hf:∀id∈sH ρ m,σ' id=σ id):kM P k0 ρ' σ' m=kM P k0 ρ σ m:=by
 have one':∀o:Operand,(∀t∈tL o,ρ' (.tmp t)=ρ (.tmp t))->ρ' o=ρ o:=fun o h=>by
  cases o with
  |tmp t=>exact h t (by simp[tL])
  |_=>exact hc _ rfl
 have many:∀xs:List Operand,(∀t∈zX xs,ρ' (.tmp t)=ρ (.tmp t))->xs.map ρ'=xs.map ρ:=fun xs h=>
  eL fun o ho=>one' o fun t ht=>h t (e_.2 ⟨o,ho,ht⟩)
 have opt:∀(x:Option Operand)(d:Int),(∀t∈D2 x,ρ' (.tmp t)=ρ (.tmp t))->B4 ρ' d x=B4 ρ d x:=fun x d h=>by
  cases x with
  |none=>rfl
  |some o=>simp only[B4];rw[one' o h]
 cases m with
 |mv x|nV x|un _ x|OV _ x|len x|ext x _|tN _ x=>simp only[oz]at hr;simp only[kM];rw[one' x hr]
 |El id d t x=>rfl
 |box id t x=>simp only[oz]at hr;simp only[sH]at hf;simp only[kM,Pa];rw[one' x hr,hf id (by simp)]
 |pick c a b=>
  simp only[oz,aH]at hr;simp only[kM];rw[one' c fun t h=>hr t (.inl (.inl h)),one' a fun t h=>hr t (.inl (.inr h)),one' b fun t h=>hr t (.inr h)]
 |alloc id t z=>simp only[sH]at hf;simp only[kM];rw[hf id (by simp)]
 |build z ps=>
  simp only[oz]at hr;simp only[kM];have:∀(ps:List (Nat×Nat×Operand))(cs:List AV),(∀t∈zX (ps.map (·.2.2)),ρ' (.tmp t)=ρ (.tmp t))->rq ρ' cs ps=rq ρ cs ps:=by
   intro ps;induction ps with
   |nil=>intro cs _;rfl
   |cons p ps ih=>
    obtain⟨off,n,x⟩:=p;intro cs h;simp only[aN,zX,cY,aH]at h;simp only[rq];rw[one' x fun t ht=>h t (.inl ht)];cases(ρ x).cells with
    |none=>rfl
    |some xs=>simp only;split<;>first|exact ih _ (fun t ht=>h t (.inr ht))|rfl
  rw[this ps _ hr]
 |pF id t e xs=>simp only[oz]at hr;simp only[sH]at hf;simp only[kM,Pb];rw[many xs hr,hf id (by simp)]
 |Dg id t e xs=>simp only[oz]at hr;simp only[sH]at hf;simp only[kM,IQ];rw[many xs hr,hf id (by simp)]
 |zC id t e xs=>simp only[oz]at hr;simp only[sH]at hf;simp only[kM,IM];rw[many xs hr,hf id (by simp)]
 |load n ag p=>
  simp only[oz]at hr;simp only[sH]at hf;simp only[kM];rw[one' p hr];unfold Jg;cases hp:ρ p with
  |ptr id off=>rw[hp]at hf;simp only;rw[hf id (by simp)]
  |kP id kk off=>rw[hp]at hf;simp only;rw[hf id (by simp)]
  |_=>rfl
 |store n p x=>
  simp only[oz,aH]at hr;simp only[sH]at hf;simp only[kM];rw[one' p fun t h=>hr t (.inl h),one' x fun t h=>hr t (.inr h)];unfold E0;cases hp:ρ p with
  |ptr id off=>rw[hp]at hf;simp only;rw[hf id (by simp)]
  |kP id kk off=>rw[hp]at hf;simp only;rw[hf id (by simp)]
  |_=>rfl
 |bin _ x y|Df _ x y|min x y|tg _ x y|wH _ _ x y=>
  simp only[oz,aH]at hr;simp only[kM];rw[one' x fun t h=>hr t (.inl h),one' y fun t h=>hr t (.inr h)]
 |zS f first cap=>
  simp only[oz,aH]at hr;simp only[kM];rw[many first fun t h=>hr t (.inl h),many cap fun t h=>hr t (.inr h)]
 |xM id t e bytes z tok l c=>rfl
 |yC id t e bytes z tok l c=>
  simp only[oz,aH]at hr;simp only[sH]at hf;simp only[kM,Jj];rw[one' l fun t h=>hr t (.inl h),one' c fun t h=>hr t (.inr h),hf id (by simp)]
 |slc x e lo hi mx=>
  simp only[oz,aH]at hr;simp only[kM];rw[one' x fun t h=>hr t (.inl (.inl (.inl h)))];cases mx with
  |some m=>
   simp only[K6];rw[one' m fun t h=>hr t (.inr h)];cases hi with
   |none=>rfl
   |some hh=>simp only[Yc];rw[one' hh fun t h=>hr t (.inl (.inr h))]
  |none=>
   simp only[K6];rw[opt lo 0 fun t h=>hr t (.inl (.inl (.inr h)))];cases qt (ρ x)with
   |none=>rfl
   |some p=>simp only[JN];rw[opt hi _ fun t h=>hr t (.inl (.inr h))]
 |EV x e n lo hi mx=>
  simp only[oz,aH]at hr;simp only[kM,JL];rw[one' x fun t h=>hr t (.inl (.inl h))];cases ρ x<;>cases lo<;>cases hi<;>cases mx<;>first
   |rfl
   |(rename_i q;simp only;rw[one' q fun t h=>hr t (.inr h)])
 |app id t e bytes x y=>
  simp only[oz,aH]at hr;simp only[kM];rw[one' x fun t h=>hr t (.inl h),one' y fun t h=>hr t (.inr h)];exact BX hf
 |De id t e bytes x y=>
  simp only[oz,aH]at hr;simp only[kM];rw[one' x fun t h=>hr t (.inl h),one' y fun t h=>hr t (.inr h)];unfold Fu;cases qt (ρ y)with
  |none=>rfl
  |some p=>
   simp only;have h0:BW σ' id t e bytes k0 p.1 p.2 (ρ x)=BW σ id t e bytes k0 p.1 p.2 (ρ x):=BX (p:=some p) hf;simp only[sH]at hf;cases hx:ρ x with
   |d x1=>
    rw[hx]at hf h0;have hj:=hf id (by simp);cases x1 with
    |sl e1 nl xs=>cases nl with
     |none=>exact h0
     |some b=>cases b<;>cases xs<;>first|exact h0|simp only[Eh,hj]
    |_=>exact h0
   |_=>rw[hx]at h0;exact h0
 |me f xs=>simp only[oz]at hr;simp only[kM];rw[many xs hr]
 |mz g xs=>
  simp only[oz,aH]at hr;simp only[kM];rw[one' g fun t h=>hr t (.inl h),many xs fun t h=>hr t (.inr h)]
 |dead=>rfl
 |Da _|CT _ _ _|zT _ _=>rfl
def vM:List (Nat×Ob)->Nat->Option Ob
 |[],_=>none
 |(i,ob)::r,id=>match vM r id with
  |some x=>some x
  |none=>if id=i then some ob else none
theorem CQ:∀(δ:List (Nat×Ob))(s:gU)(id:Nat),sat (pP s δ) id=(vM δ id).getD (sat s id)
 |[],_,_=>rfl
 |(i,ob)::r,s,id=>by
  rw[pP,CQ r,jv,vM];cases vM r id with
  |some x=>rfl
  |none=>by_cases h:id=i<;>simp[h]
theorem DD:∀{δ:List (Nat×Ob)}{id:Nat},(vM δ id).isSome=true->id∈δ.map (·.1)
 |[],_,h=>by simp[vM]at h
 |(i,ob)::r,id,h=>by
  simp only[vM]at h;cases hr:vM r id with
  |some x=>exact a_ _ (DD (by rw[hr];rfl))
  |none=>
   rw[hr]at h;by_cases hi:id=i
   ·simp[hi]
   ·simp[hi]at h
def UG(σ:Nat->Ob)(pr mp:List gv):gU:=mp.map fun(c,j)=>(c,(σ j).jW (nQ pr))
def Gj(t:gU)(all mp:List gv):List (Nat×Ob):=mp.map fun(c,j)=>(j,(sat t c).jW (lz all))
theorem CR{t:gU}{all:List gv}:∀{mp:List gv}{s:gU},pO s t mp all=pP s (Gj t all mp)
 |[],_=>rfl
 |(c,j)::r,s=>by simp only[pO,Gj,aN,pP];exact CR
def RG(P:Program)(k0:Nat)(σ:Nat->Ob)(f:Nat)(args:List AV)(K:AV->List (Nat×Ob)->List Nat->Prop):Prop:=
 (∃dz:List D,iG (args.map fun x=>x.jW (nQ [])) (dz.map .d)/\((∃r,jF P f dz r/\K (.d r) [] [])\/∃rs:List D,oF P f dz rs/\K (.lE (rs.map .d)) [] []))\/
 ∃(pr nw:List gv)(y:AV)(t:gU),pr.map (·.1)=List.range pr.length/\((pr++nw).map (·.1)).Nodup/\((pr++nw).map (·.2)).Nodup/\(∀p∈nw,σ p.2=.dead/\k0<=p.2)/\
  h_ P f (args.map fun x=>x.jW (nQ pr)) (UG σ pr pr) pr.length (fun x s'=>x=y/\s'=t)/\K (y.jW (lz (pr++nw))) (Gj t (pr++nw) (pr++nw)) ((pr++nw).map (·.2))
def yY(P:Program)(k0:Nat)(σ:Nat->Ob)(R:AV->List (Nat×Ob)->List Nat->Prop):qC->Prop
 |.ok x δ=>R x δ []
 |.need p o=>p/\yY P k0 σ R o
 |.br b o1 o2=>if b=true then yY P k0 σ R o1 else yY P k0 σ R o2
 |.call f args=>RG P k0 σ f args R
 |.bad=>False
theorem zE{P:Program}{k0:Nat}{σ:Nat->Ob}{R:AV->List (Nat×Ob)->List Nat->Prop}:∀{o:qC},yY P k0 σ R o->
 ∃x δ ex,yY P k0 σ (fun x' δ' e'=>x'=x/\δ'=δ/\e'=ex) o/\R x δ ex
 |.ok x δ,h=>⟨x,δ,[],⟨rfl,rfl,rfl⟩,h⟩
 |.need p o,h=>by obtain⟨hp,h⟩:=h;obtain⟨x,δ,ex,h1,h2⟩:=zE h;exact⟨x,δ,ex,⟨hp,h1⟩,h2⟩
 |.br b o1 o2,h=>by
  simp only[yY]at h⊢;split at h
  ·rename_i hb;obtain⟨x,δ,ex,h1,h2⟩:=zE h;exact⟨x,δ,ex,by rw[ah hb];exact h1,h2⟩
  ·rename_i hb;obtain⟨x,δ,ex,h1,h2⟩:=zE h;exact⟨x,δ,ex,by rw[ak hb];exact h1,h2⟩
 |.call f args,h=>by
  rcases h with⟨ds,h1,h|h⟩|⟨pr,nw,y,t,h1,h2,h3,h4,h5,h6⟩
  ·obtain⟨r,h2,h3⟩:=h;exact⟨_,_,_,.inl ⟨ds,h1,.inl ⟨r,h2,rfl,rfl,rfl⟩⟩,h3⟩
  ·obtain⟨r,h2,h3⟩:=h;exact⟨_,_,_,.inl ⟨ds,h1,.inr ⟨r,h2,rfl,rfl,rfl⟩⟩,h3⟩
  ·exact⟨_,_,_,.inr ⟨pr,nw,y,t,h1,h2,h3,h4,h5,rfl,rfl,rfl⟩,h6⟩
 |.bad,h=>h.elim
theorem wE{P:Program}{k0:Nat}{σ σ':Nat->Ob}{x:AV}{δ:List (Nat×Ob)}{ex:List Nat}(hs:∀id∈ex,σ' id=σ id):∀{o:qC},
 yY P k0 σ (fun x' δ' e'=>x'=x/\δ'=δ/\e'=ex) o->yY P k0 σ' (fun x' δ' e'=>x'=x/\δ'=δ/\e'=ex) o
 |.ok x δ,h=>h
 |.need p o,h=>⟨h.1,wE hs h.2⟩
 |.br b o1 o2,h=>by
  simp only[yY]at h⊢;split at h
  ·rename_i hb;rw[ah hb];exact wE hs h
  ·rename_i hb;rw[ak hb];exact wE hs h
 |.call f args,h=>by
  rcases h with h|⟨pr,nw,y,t,h1,h2,h3,h4,h5,h6,h7,h8⟩
  ·exact .inl h
  ·subst h8;refine .inr ⟨pr,nw,y,t,h1,h2,h3,fun p hp=>?_,?_,h6,h7,rfl⟩
   ·rw[hs p.2 (bw.2 ⟨p,bS _ hp,rfl⟩)];exact h4 p hp
   ·have:UG σ' pr pr=UG σ pr pr:=eL fun p hp=>by
     show(p.1,(σ' p.2).jW (nQ pr))=(p.1,(σ p.2).jW (nQ pr));rw[hs p.2 (bw.2 ⟨p,bt _ hp,rfl⟩)]
    rw[this];exact h5
 |.bad,h=>h.elim
theorem ym{P:Program}{k0:Nat}{R:AV->List (Nat×Ob)->List Nat->Prop}{K:AV->List AV->gU->Prop}{env:List AV}{s:gU}
 (hK:∀x δ ex,R x δ ex->K x env (pP s δ)):∀{o:qC},yY P k0 (sat s) R o->runK P k0 K (o.out env s)
 |.ok x δ,h=>hK x δ _ h
 |.need p o,h=>⟨h.1,ym hK h.2⟩
 |.br b o1 o2,h=>by
  simp only[yY]at h;simp only[qC.out,runK];split at h
  ·rename_i hb;rw[ah hb];exact ym hK h
  ·rename_i hb;rw[ak hb];exact ym hK h
 |.call f args,h=>by
  rcases h with⟨ds,h1,h|h⟩|⟨pr,nw,y,t,h1,h2,h3,h4,h5,h6⟩
  ·obtain⟨r,h2,h3⟩:=h;exact yf (Fz h1 h2 (hK _ _ _ h3))
  ·obtain⟨r,h2,h3⟩:=h;exact yf (DC h1 h2 (hK _ _ _ h3))
  ·refine yf ⟨pr,nw,_,h1,h2,h3,h4,h5,?_⟩;rintro x s' ⟨rfl,rfl⟩;rw[CR];exact hK _ _ _ h6
 |.bad,h=>h.elim
def gd(m:iw)(env:List AV):Option Bool:=match m.guard with
 |none=>some true
 |some (none,_)=>none
 |some (some d,want)=>match env.getD d .gW with
  |.d (.lit (.bool b))=>some (b==want)
  |.lE []=>some false
  |_=>none
def uM(P:Program)(k0:Nat)(F:List (List Nat×List Nat)->List AV->gU->Prop):List iw->List (List Nat×List Nat)->List AV->gU->Prop
 |[],acc,env,s=>F acc env s
 |m::ms,acc,env,s=>match gd m env with
  |none=>False
  |some true=>yY P k0 (sat s) (fun x δ ex=>uM P k0 F ms ((ex++sH (ev env) m.op,δ.map (·.1))::acc) (iI m.dst env x) (pP s δ)) (kM P k0 (ev env) (sat s) m.op)
  |some false=>uM P k0 F ms (([],[])::acc) (iI m.dst env (.lE [])) s
def LU(P:Program)(k0:Nat)(m:iw)(env:List AV)(s:gU)(x:AV)(δ:List (Nat×Ob))(ft:List Nat×List Nat):Prop:=
 (gd m env=some true/\∃ex,yY P k0 (sat s) (fun x' δ' e'=>x'=x/\δ'=δ/\e'=ex) (kM P k0 (ev env) (sat s) m.op)/\ft=(ex++sH (ev env) m.op,δ.map (·.1)))\/
 (gd m env=some false/\x=.lE []/\δ=[]/\ft=([],[]))
def Tn(P:Program)(k0:Nat)(F:List (List Nat×List Nat)->List AV->gU->Prop)(ms:List iw)(acc:List (List Nat×List Nat))(env:List AV)(s:gU):Prop:=
 ∃(x:Nat->AV)(δ:Nat->List (Nat×Ob))(ft:Nat->List Nat×List Nat)(E:Nat->List AV)(S:Nat->gU),E 0=env/\S 0=s/\
  (∀i m,ms[i]?=some m->LU P k0 m (E i) (S i) (x i) (δ i) (ft i)/\E (i+1)=iI m.dst (E i) (x i)/\S (i+1)=pP (S i) (δ i))/\
  F (((List.range ms.length).map ft).reverse++acc) (E ms.length) (S ms.length)
theorem Tn.cons{P:Program}{k0:Nat}{F:List (List Nat×List Nat)->List AV->gU->Prop}{m:iw}{ms:List iw}{acc:List (List Nat×List Nat)}{env:List AV}{s:gU}
 {x0:AV} {δ0:List (Nat×Ob)} {f0:List Nat×List Nat} (hs:LU P k0 m env s x0 δ0 f0) (h:Tn P k0 F ms (f0::acc) (iI m.dst env x0) (pP s δ0)):Tn P k0 F (m::ms) acc env s:=by
 obtain⟨x,δ,ft,E,S,hE,hS,h1,h2⟩:=h;refine⟨fun i=>Nat.casesOn i x0 x,fun i=>Nat.casesOn i δ0 δ,fun i=>Nat.casesOn i f0 ft,fun i=>Nat.casesOn i env E,fun i=>Nat.casesOn i s S,rfl,rfl,fun i m' hi=>?_,?_⟩
 ·cases i with
  |zero=>
   simp only[List.getElem?_cons_zero,aM]at hi;subst hi;exact⟨hs,hE,hS⟩
  |succ i=>exact h1 i m' (by simpa using hi)
 ·have:((List.range (m::ms).length).map fun i=>(Nat.casesOn i f0 ft:List Nat×List Nat)).reverse++acc=((List.range ms.length).map ft).reverse++(f0::acc):=by
   rw[aQ,List.range_succ_eq_map,aN,eN,List.reverse_cons,aG];rfl
  rw[this];exact h2
theorem yw{P:Program}{k0:Nat}{F:List (List Nat×List Nat)->List AV->gU->Prop}:∀{ms:List iw}{acc:List (List Nat×List Nat)}{env:List AV}{s:gU},
 uM P k0 F ms acc env s->Tn P k0 F ms acc env s
 |[],acc,env,s,h=>⟨fun _=>.gW,fun _=>[],fun _=>([],[]),fun _=>env,fun _=>s,rfl,rfl,fun i m hi=>by simp at hi,h⟩
 |m::ms,acc,env,s,h=>by
  simp only[uM]at h;split at h
  ·exact h.elim
  ·rename_i hg;obtain⟨x0,δ0,ex,h1,h2⟩:=zE h;exact Tn.cons (.inl ⟨hg,ex,h1,rfl⟩) (yw h2)
  ·rename_i hg;exact Tn.cons (x0:=.lE []) (δ0:=[]) (.inr ⟨hg,rfl,rfl,rfl⟩) (yw h)
def gl{β:Type}(f:Nat->Option β)(L:Nat->Bool)(b:β):Nat->β
 |0=>b
 |n+1=>if L n=true then(f n).getD (gl f L b n)else gl f L b n
theorem tc{β:Type}{f:Nat->Option β}{L L':Nat->Bool}{b:β}:∀{n:Nat},(∀j,j<n->(f j).isSome=true->L j=L' j)->gl f L b n=gl f L' b n
 |0,_=>rfl
 |n+1,h=>by
  have ih:=tc (b:=b) (n:=n) fun j hj=>h j gN
  simp only[gl];rw[ih];cases hf:f n with
  |none=>simp
  |some v=>rw[h n gN (by rw[hf];rfl)]
theorem HB{β:Type}{f:Nat->Option β}{L:Nat->Bool}{b v:β}{i:Nat}(hf:f i=some v)(hL:L i=true):
 ∀{n:Nat},i<n->(∀j,i<j->j<n->(f j).isSome=true->L j=false)->gl f L b n=v
 |0,hi,_=>by omega
 |n+1,hi,h=>by
  simp only[gl];by_cases hin:i=n
  ·subst hin;rw[ah hL,hf];rfl
  ·have ih:=HB (b:=b) hf hL (n:=n) gN fun j h1 h2=>h j h1 gN
   cases hn:f n with
   |none=>simp[ih]
   |some u=>rw[h n gN gN (by rw[hn];rfl)];simpa using ih
theorem AH{β:Type}{f:Nat->Option β}{b:β}{i:Nat}:∀{n:Nat},i<=n->gl f (fun j=>decide (j<i)) b n=gl f (fun _=>true) b i
 |0,h=>by
  have:i=0:=by omega
  subst this;rfl
 |n+1,h=>by
  by_cases hi:i=n+1
  ·subst hi;exact tc fun j hj _=>by simp[hj]
  ·simp only[gl];rw[ak (by simp;omega)];exact AH gN
def XQ(m:iw):List Nat:=oz m.op++(match m.guard with|some (some g,_)=>[g]|_=>[])
def AJ(xs ys:List Nat):Bool:=xs.any fun x=>ys.contains x
def A6(m m':iw)(f f':List Nat×List Nat):Bool:=
 AJ m'.dst.toList (XQ m)||AJ m.dst.toList (XQ m')||AJ m.dst.toList m'.dst.toList||AJ f.2 f'.1||AJ f'.2 f.1||AJ f.2 f'.2
def FC(after:List gz):List gz:=after.foldl (fun T a=>T++[(a++a.flatMap fun e=>T.getD e []).eraseDups]) []
def vL(after B:List gz):Bool:=
 ((List.range after.length).all fun i=>(after.getD i []).all fun e=>decide (e<i))&&
 (List.range B.length).all fun i=>(B.getD i []).all fun j=>(after.getD i []).contains j||(after.getD i []).any fun e=>decide (e<i)&&(B.getD e []).contains j
def SZ(ms:List iw)(B:List gz)(fts:List (List Nat×List Nat)):Bool:=
 (List.range ms.length).all fun i=>(List.range i).all fun j=>match ms[i]?,ms[j]? with
  |some m,some m'=>!A6 m m' (fts.getD i ([],[])) (fts.getD j ([],[]))||(B.getD i []).contains j
  |_,_=>false
def ux(ms:List iw)(after:List gz)(fts:List (List Nat×List Nat)):Bool:=vL after (FC after)&&SZ ms (FC after) fts
theorem xw{after B:List gz}(h:vL after B=true){L:Nat->Bool}(hL:∀i,L i=true->∀e∈after.getD i [],L e=true):
 ∀(i:Nat),(∀e∈after.getD i [],L e=true)->∀j∈B.getD i [],L j=true:=by
 simp only[vL,bE,cm,cW,Bool.or_eq_true,dW,aA,List.contains_iff_mem]at h;intro i;induction i using Nat.strongRecOn with
 |ind i ih=>
  intro ha j hj;have hi:i<B.length:=by
   rcases cH i B.length with h'|h'
   ·exact h'
   ·rw[av,bN h']at hj;simp at hj
  rcases h.2 i hi j hj with h1|⟨e,he,hlt,hje⟩
  ·exact ha j h1
  ·exact ih e hlt (hL e (ha e he)) j hje
def Iw(L:Nat->Bool):Nat->Nat
 |0=>0
 |n+1=>Iw L n+(match L n with|true=>0|false=>1)
theorem E3{L L':Nat->Bool}{i:Nat}(h1:L i=false)(h2:L' i=true)(h:∀j,j≠i->L' j=L j):∀{n:Nat},(n<=i->Iw L' n=Iw L n)/\(i<n->Iw L' n+1=Iw L n)
 |0=>⟨fun _=>rfl,fun h=>by omega⟩
 |n+1=>by
  obtain⟨ih1,ih2⟩:=E3 (n:=n) h1 h2 h;refine⟨fun hn=>?_,fun hn=>?_⟩
  ·simp only[Iw];rw[ih1 gN,h n gN]
  ·simp only[Iw];by_cases hin:n=i
   ·subst hin;rw[ih1 gN,h1,h2];simp
   ·rw[h n hin];have:=ih2 gN;omega
theorem CZ{L:Nat->Bool}:∀{n:Nat},Iw L n=0->∀j,j<n->L j=true
 |0,_,j,hj=>by omega
 |n+1,h,j,hj=>by
  simp only[Iw]at h;by_cases hn:j=n
  ·subst hn;cases hL:L j with
   |true=>rfl
   |false=>rw[hL]at h;simp at h
  ·exact CZ (n:=n) gN j gN
def fs(d:Nat->Option Nat)(x:Nat->AV)(t:Nat)(j:Nat):Option AV:=if d j=some t then some (x j)else none
theorem DN{d:Option Nat}{env:List AV}{x:AV}{t:Nat}(ht:t<env.length):(iI d env x).getD t .gW=if d=some t then x else env.getD t .gW:=by
 cases d with
 |none=>simp[iI]
 |some d=>
  simp only[iI,av,dU,aM];by_cases h:d=t
  ·subst h;simp[ht]
  ·simp[h]
theorem A_{d:Option Nat}{env:List AV}{x:AV}:(iI d env x).length=env.length:=by cases d<;>simp[iI]
structure qv(P:Program)(k0:Nat)(ms:List iw)(after:List gz)(x:Nat->AV)(δ:Nat->List (Nat×Ob))(ft:Nat->List Nat×List Nat)
 (E:Nat->List AV) (S:Nat->gU):Prop where
 step:∀i m,ms[i]?=some m->LU P k0 m (E i) (S i) (x i) (δ i) (ft i)/\E (i+1)=iI m.dst (E i) (x i)/\S (i+1)=pP (S i) (δ i)
 ok:ux ms after ((List.range ms.length).map ft)=true
def DF(ms:List iw)(j:Nat):Option Nat:=(ms[j]?).bind (·.dst)
section
variable{P:Program}{k0:Nat}{ms:List iw}{after:List gz}{x:Nat->AV}{δ:Nat->List (Nat×Ob)}{ft:Nat->List Nat×List Nat}
 {E:Nat->List AV} {S:Nat->gU}
theorem qv.len(h:qv P k0 ms after x δ ft E S):∀{i:Nat},i<=ms.length->(E i).length=(E 0).length
 |0,_=>rfl
 |i+1,hi=>by
  have hm:ms[i]?=some ms[i]:=az gN;rw[(h.step i _ hm).2.1,A_,h.len gN]
theorem qv.slot(h:qv P k0 ms after x δ ft E S){t:Nat}(ht:t<(E 0).length):∀{i:Nat},i<=ms.length->
 (E i).getD t .gW=gl (fs (DF ms) x t) (fun _=>true) ((E 0).getD t .gW) i
 |0,_=>rfl
 |i+1,hi=>by
  have hm:ms[i]?=some ms[i]:=az gN;rw[(h.step i _ hm).2.1,DN (by rw[h.len gN];exact ht),h.slot ht gN];simp only[gl,aB,fs,DF,hm,aa];split<;>rfl
theorem qv.obj(h:qv P k0 ms after x δ ft E S)(id:Nat):∀{i:Nat},i<=ms.length->
 sat (S i) id=gl (fun j=>vM (δ j) id) (fun _=>true) (sat (S 0) id) i
 |0,_=>rfl
 |i+1,hi=>by
  have hm:ms[i]?=some ms[i]:=az gN;rw[(h.step i _ hm).2.2,CQ,h.obj id gN];simp only[gl,aB]
structure Bh(E:Nat->List AV)(S:Nat->gU)(ms:List iw)(x:Nat->AV)(δ:Nat->List (Nat×Ob))(L:Nat->Bool)(env:List AV)(s:gU):Prop where
 len:env.length=(E 0).length
 slot:∀t,t<(E 0).length->env.getD t .gW=gl (fs (DF ms) x t) L ((E 0).getD t .gW) ms.length
 obj:∀id,sat s id=gl (fun j=>vM (δ j) id) L (sat (S 0) id) ms.length
theorem qv.ord(h:qv P k0 ms after x δ ft E S){i j:Nat}{m m':iw}(hi:ms[i]?=some m)(hj:ms[j]?=some m')(hji:j<i)
 (hc:A6 m m' (ft i) (ft j)=true):j∈(FC after).getD i []:=by
 have hl:i<ms.length:=(aL.1 hi).1;have:=h.ok;simp only[ux,bE,SZ,cm,cW]at this;have:=this.2 i hl j hji;rw[hi,hj]at this;have e1:((List.range ms.length).map ft).getD i ([],[])=ft i:=by simp[av,hl]
 have e2:((List.range ms.length).map ft).getD j ([],[])=ft j:=by simp[av,show j<ms.length by omega]
 rw[e1,e2]at this;simpa[hc]using this
theorem qv.before(h:qv P k0 ms after x δ ft E S){L:Nat->Bool}(hL:∀i,L i=true->∀e∈after.getD i [],L e=true){i:Nat}{m:iw}(hi:ms[i]?=some m)
 (hu:L i=false) (hr:∀e∈after.getD i [],L e=true) {j:Nat} {m':iw} (hj:ms[j]?=some m') (hne:j≠i) (hc:A6 m m' (ft i) (ft j)=true/\A6 m' m (ft j) (ft i)=true):
 L j=decide (j<i):=by
 have hcl:=h.ok;simp only[ux,bE]at hcl;rcases cH j i with hlt|hge
 ·rw[xw hcl.1 hL i hr j (h.ord hi hj hlt hc.1)];simp[hlt]
 ·have hlt:i<j:=by omega
  have hb:=h.ord hj hi hlt hc.2;cases hLj:L j with
  |false=>simp;omega
  |true=>
   have:=xw hcl.1 hL j (hL j hLj) i hb;rw[hu]at this;cases this
theorem yo{xs ys:List Nat}{a:Nat}(h1:a∈xs)(h2:a∈ys):AJ xs ys=true:=dW.2 ⟨a,h1,by simpa using h2⟩
theorem Hu{j t:Nat}(h:(fs (DF ms) x t j).isSome=true):∃m',ms[j]?=some m'/\m'.dst=some t:=by
 unfold fs at h;split at h
 ·rename_i hd;unfold DF at hd;cases hm:ms[j]? with
  |none=>rw[hm]at hd;cases hd
  |some m'=>rw[hm]at hd;exact⟨m',rfl,hd⟩
 ·cases h
theorem qv.write(h:qv P k0 ms after x δ ft E S){j id:Nat}{m':iw}(hj:ms[j]?=some m')(hw:(vM (δ j) id).isSome=true):id∈(ft j).2:=by
 have:=(h.step j m' hj).1;rcases this with⟨_,_,_,h3⟩|⟨_,_,h3,_⟩
 ·rw[h3];exact DD hw
 ·rw[h3]at hw;cases hw
theorem qv.reads(h:qv P k0 ms after x δ ft E S){L:Nat->Bool}(hL:∀i,L i=true->∀e∈after.getD i [],L e=true){i:Nat}{m:iw}(hi:ms[i]?=some m)
 (hu:L i=false) (hr:∀e∈after.getD i [],L e=true) {env:List AV} {s:gU} (hb:Bh E S ms x δ L env s) {t:Nat} (ht:t∈XQ m):env.getD t .gW=(E i).getD t .gW:=by
 have hil:i<ms.length:=(aL.1 hi).1;by_cases hlt:t<(E 0).length
 ·rw[hb.slot t hlt,h.slot hlt (i:=i) gN,<-AH (Nat.le_of_lt hil)];refine tc fun j hj hs=>?_
  by_cases hne:j=i
  ·subst hne;rw[hu];simp
  ·obtain⟨m',hm',hd⟩:=Hu hs;refine h.before hL hi hu hr hm' hne ?_;have:AJ m'.dst.toList (XQ m)=true:=yo (a:=t) (by rw[hd];simp) ht;simp[A6,this]
 ·have e1:env.getD t .gW=.gW:=by rw[av,bN (by rw[hb.len];omega)];rfl
  have e2:(E i).getD t .gW=.gW:=by rw[av,bN (by rw[h.len gN];omega)];rfl
  rw[e1,e2]
theorem qv.looks(h:qv P k0 ms after x δ ft E S){L:Nat->Bool}(hL:∀i,L i=true->∀e∈after.getD i [],L e=true){i:Nat}{m:iw}(hi:ms[i]?=some m)
 (hu:L i=false) (hr:∀e∈after.getD i [],L e=true) {env:List AV} {s:gU} (hb:Bh E S ms x δ L env s) {id:Nat} (hid:id∈(ft i).1):sat s id=sat (S i) id:=by
 have hil:i<ms.length:=(aL.1 hi).1;rw[hb.obj id,h.obj id (i:=i) gN,<-AH (Nat.le_of_lt hil)];refine tc fun j hj hs=>?_
 by_cases hne:j=i
 ·subst hne;rw[hu];simp
 ·have hm':ms[j]?=some ms[j]:=az hj;refine h.before hL hi hu hr hm' hne ?_;have:AJ (ft j).2 (ft i).1=true:=yo (a:=id) (h.write hm' hs) hid;simp[A6,this]
theorem qv.next(h:qv P k0 ms after x δ ft E S){L L':Nat->Bool}(hL:∀i,L i=true->∀e∈after.getD i [],L e=true){i:Nat}{m:iw}(hi:ms[i]?=some m)
 (hu:L i=false) (hr:∀e∈after.getD i [],L e=true) (hi':L' i=true) (hn:∀j,j≠i->L' j=L j) {env:List AV} {s:gU} (hb:Bh E S ms x δ L env s):
 Bh E S ms x δ L' (iI m.dst env (x i)) (pP s (δ i)):=by
 have hil:i<ms.length:=(aL.1 hi).1;refine⟨by rw[A_,hb.len],fun t ht=>?_,fun id=>?_⟩
 ·rw[DN (by rw[hb.len];exact ht)];split
  ·rename_i hd;refine(HB (i:=i) (by simp[fs,DF,hi,hd]) hi' hil fun j hij hj hs=>?_).symm;obtain⟨m',hm',hd'⟩:=Hu hs;have:AJ m.dst.toList m'.dst.toList=true:=yo (a:=t) (by rw[hd];simp) (by rw[hd'];simp);have this':AJ m'.dst.toList m.dst.toList=true:=yo (a:=t) (by rw[hd'];simp) (by rw[hd];simp);rw[hn j gN,h.before hL hi hu hr hm' gN (by simp[A6,this,this'])];simp;omega
  ·rename_i hd;rw[hb.slot t ht];refine tc fun j hj hs=>?_
   by_cases hne:j=i
   ·subst hne;obtain⟨m',hm',hd'⟩:=Hu hs;rw[hi]at hm';cases hm';exact absurd hd' hd
   ·rw[hn j hne]
 ·rw[CQ];cases hd:vM (δ i) id with
  |some ob=>
   refine(HB (i:=i) hd hi' hil fun j hij hj hs=>?_).symm;have hm':ms[j]?=some ms[j]:=az hj;have a1:=h.write hm' hs;have a2:=h.write hi (by rw[hd];rfl:(vM (δ i) id).isSome=true);have:AJ (ft i).2 (ft j).2=true:=yo a2 a1;have this':AJ (ft j).2 (ft i).2=true:=yo a1 a2;rw[hn j gN,h.before hL hi hu hr hm' gN (by simp[A6,this,this'])];simp;omega
  |none=>
   simp only[Option.getD_none];rw[hb.obj id];refine tc fun j hj hs=>?_
   by_cases hne:j=i
   ·subst hne;rw[hd]at hs;cases hs
   ·rw[hn j hne]
theorem qv.run(h:qv P k0 ms after x δ ft E S){L:Nat->Bool}(hL:∀i,L i=true->∀e∈after.getD i [],L e=true){i:Nat}{m:iw}(hi:ms[i]?=some m)
 (hu:L i=false) (hr:∀e∈after.getD i [],L e=true) {env:List AV} {s:gU} (hb:Bh E S ms x δ L env s):
 match m.guard with
  |none=>qA P k0 m.op env s fun x' env' s'=>iI m.dst env' x'=iI m.dst env (x i)/\s'=pP s (δ i)
  |some (g,want)=>match g with
   |none=>iI m.dst env (.lE [])=iI m.dst env (x i)/\s=pP s (δ i)
   |some d=>match env.getD d .gW with
    |.d (.lit (.bool b))=>Br b want (qA P k0 m.op env s fun x' env' s'=>iI m.dst env' x'=iI m.dst env (x i)/\s'=pP s (δ i)) (iI m.dst env (.lE [])=iI m.dst env (x i)/\s=pP s (δ i))
    |.lE []=>iI m.dst env (.lE [])=iI m.dst env (x i)/\s=pP s (δ i)
    |_=>False:=by
 have hs:=(h.step i m hi).1;have run:(∃ex,yY P k0 (sat (S i)) (fun x' δ' e'=>x'=x i/\δ'=δ i/\e'=ex) (kM P k0 (ev (E i)) (sat (S i)) m.op)/\ft i=(ex++sH (ev (E i)) m.op,(δ i).map (·.1)))->
  qA P k0 m.op env s fun x' env' s'=>iI m.dst env' x'=iI m.dst env (x i)/\s'=pP s (δ i):=fun⟨ex,hd,hf⟩=>by
  have hc:kM P k0 (ev env) (sat s) m.op=kM P k0 (ev (E i)) (sat (S i)) m.op:=by
   refine Iz (fun o ho=>?_) (fun t ht=>?_) (fun id hid=>?_)
   ·cases o with
    |tmp t=>simp[tL]at ho
    |_=>rfl
   ·simpa only[ev]using h.reads hL hi hu hr hb (t:=t) (bt _ ht)
   ·exact h.looks hL hi hu hr hb (by rw[hf];exact bS _ hid)
  rw[<-hc]at hd;replace hd:=wE (σ':=sat s) (fun id hid=>h.looks hL hi hu hr hb (by rw[hf];exact bt _ hid)) hd;exact GM (Lf (ym (K:=fun x' env' s'=>iI m.dst env' x'=iI m.dst env (x i)/\s'=pP s (δ i)) (fun x' δ' e' hx=>by
   obtain⟨rfl,rfl,_⟩:=hx;exact⟨rfl,rfl⟩) hd))
 cases hg:m.guard with
 |none=>
  rcases hs with⟨_,h2⟩|⟨h1,_⟩
  ·exact run h2
  ·simp[gd,hg]at h1
 |some p=>
  obtain⟨g,want⟩:=p;cases g with
  |none=>rcases hs with⟨h1,_⟩|⟨h1,_⟩<;>simp[gd,hg]at h1
  |some d=>
   have he:env.getD d .gW=(E i).getD d .gW:=h.reads hL hi hu hr hb (by simp[XQ,hg]);simp only;rw[he];have hgd:gd m (E i)=(match(E i).getD d .gW with|.d (.lit (.bool b))=>some (b==want)|.lE []=>some false|_=>none):=by simp only[gd,hg]
   rcases hs with⟨h1,h2⟩|⟨h1,h2,h3,_⟩
   ·rw[hgd]at h1;split at h1
    ·rename_i b hb';simp only[aM,bF]at h1;simp only[Br,ah h1];exact run h2
    ·cases h1
    ·cases h1
   ·rw[hgd]at h1;split at h1
    ·rename_i b hb';simp only[aM,bW,fK]at h1;simp only[Br,ak h1];rw[h2,h3];exact⟨rfl,rfl⟩
    ·rw[h2,h3];exact⟨rfl,rfl⟩
    ·cases h1
end
theorem DZ{P:Program}{c:Code}{ms:List iw}{after:List gz}(h:mq P c=some (.draw ms after)):
 ∃id ops,c=.region id ops true/\ops.toList.mapM (oW P ops)=some ms/\after=ops.toList.map fun o=>(o.after.toList.filter (Region.binds .any)).map (·.on):=by
 cases c<;>simp[mq,ai,ay]at h⊢
 case region id' ops' d'=>
  obtain⟨ms',h1,h⟩:=h;split at h
  ·rename_i hd;simp only[gV.draw.injEq]at h;obtain⟨rfl,rfl⟩:=h;exact⟨id',ops',⟨rfl,rfl,hd⟩,h1,rfl⟩
  ·cases h
theorem uB{α β:Type}{f:α->Option β}:∀{xs:List α}{ys:List β},xs.mapM f=some ys->ys.length=xs.length/\∀(i:Nat)(x:α),xs[i]?=some x->∃y,ys[i]?=some y/\f x=some y
 |[],ys,h=>by simp at h;subst h;simp
 |x::xs,ys,h=>by
  simp only[cn,b_,ai]at h;obtain⟨y,h1,ys',h2,h3⟩:=h;cases h3;obtain⟨e1,e2⟩:=uB h2;refine⟨by simp[e1],fun i u hu=>?_⟩;cases i with
  |zero=>simp at hu;subst hu;exact⟨y,rfl,h1⟩
  |succ i=>simpa using e2 i u (by simpa using hu)
theorem Bh.env{E:Nat->List AV}{S:Nat->gU}{ms:List iw}{x:Nat->AV}{δ:Nat->List (Nat×Ob)}{L L':Nat->Bool}{env:List AV}{s:gU}
 (h:Bh E S ms x δ L env s) (hL:∀j,j<ms.length->L j=L' j):Bh E S ms x δ L' env s:=
 ⟨h.len,fun t ht=>by rw[h.slot t ht];exact tc fun j hj _=>hL j hj,fun id=>by rw[h.obj id];exact tc fun j hj _=>hL j hj⟩
theorem FH{P:Program}{C:Ctx}{ops:Array Oper}{Q:Post}{ms:List iw}{after:List gz}{x:Nat->AV}{δ:Nat->List (Nat×Ob)}{ft:Nat->List Nat×List Nat}
 {E:Nat->List AV} {S:Nat->gU} (hm:ops.toList.mapM (oW P ops)=some (ms.map iw.erase)) (ha:after=ops.toList.map fun o=>(o.after.toList.filter (Region.binds .any)).map (·.on))
 (h:qv P C.k ms after x δ ft E S) (hQ:Q .normal (E ms.length) (S ms.length)):
 ∀(fuel:Nat)(listed:Array Bool)(env:List AV)(s:gU)(β:gZ)(a:Act)(w:World),listed.size=ops.size->Iw (fun j=>listed.getD j false) ops.size<=fuel->
  (∀i,listed.getD i false=true->∀e∈after.getD i [],listed.getD e false=true)->Bh E S ms x δ (fun j=>listed.getD j false) env s->St C β env s a w->
  wpAnyIn C.nP 0 P .any ops (fun e a' w'=>∃C',Ext C C'/\∃β' env' s',St C' β' env' s' a' w'/\Q e env' s') fuel listed a w:=by
 obtain⟨hlen,hget⟩:=uB hm;rw[aK]at hlen;have hsz:ms.length=ops.size:=by rw[hlen];simp
 have haf:∀i o,ops[i]?=some o->after.getD i []=(o.after.toList.filter (Region.binds .any)).map (·.on):=fun i o ho=>by rw[ha,av,bq,Array.getElem?_toList,ho];rfl
 have hback:∀i,∀e∈after.getD i [],e<i:=fun i e he=>by
  have hc:=h.ok;simp only[ux,vL,bE,cm,cW,aA]at hc;have hi:i<after.length:=by
   rcases cH i after.length with h'|h'
   ·exact h'
   ·rw[av,bN h']at he;simp at he
  exact hc.1.1 i hi e he
 have isReady:∀{listed:Array Bool},listed.size=ops.size->∀{i:Nat},i<ops.size->listed.getD i false=false->(∀e∈after.getD i [],listed.getD e false=true)->
  i∈Region.ready .any ops listed:=fun{listed} hs {i} hi hu hr=>by
  rw[fC];have ho:ops[i]?=some ops[i]:=cM hi;refine⟨?_,_,ho,fun e he hb=>hr _ ?_⟩
  ·have:i<listed.size:=by omega
   simpa[this]using hu
  ·rw[haf i _ ho];exact bw.2 ⟨e,dZ.2 ⟨by simpa using he,hb⟩,rfl⟩
 have all:∀{listed:Array Bool},listed.size=ops.size->Region.ready .any ops listed=[]->∀i,i<ops.size->listed.getD i false=true:=fun{listed} hs hn i=>by
  induction i using Nat.strongRecOn with
  |ind i ih=>
   intro hi;cases hu:listed.getD i false with
   |true=>rfl
   |false=>
    have:=isReady hs hi hu fun e he=>ih e (hback i e he) (by have:=hback i e he;omega)
    rw[hn]at this;cases this
 have done:∀{listed:Array Bool}{env:List AV}{s:gU}{β:gZ}{a:Act}{w:World},(∀i,i<ops.size->listed.getD i false=true)->
  Bh E S ms x δ (fun j=>listed.getD j false) env s->St C β env s a w->∃C',Ext C C'/\∃β' env' s',St C' β' env' s' a w/\Q .normal env' s':=fun{listed env s β a w} hall hb hst=>by
  have hb':=hb.env (L':=fun _=>true) fun j hj=>hall j gN
  have e1:env=E ms.length:=by
   refine en fun t=>?_
   by_cases ht:t<(E 0).length
   ·have h1:=hb'.slot t ht;rw[<-h.slot ht (aC _)]at h1;have l1:t<env.length:=by rw[hb'.len];exact ht
    have l2:t<(E ms.length).length:=by rw[h.len (aC _)];exact ht
    rw[av,av,az l1,az l2]at h1;rw[az l1,az l2];simpa using h1
   ·rw[bN (by rw[hb'.len];omega),bN (by rw[h.len (aC _)];omega)]
  have e2:∀id,sat s id=sat (S ms.length) id:=fun id=>by rw[hb'.obj id,<-h.obj id (aC _)]
  rw[<-e1]at hQ;obtain⟨β',h1⟩:=ij.S_ (k:=C.k) (env:=env) e2 C β a w rfl hst;exact⟨C,.refl C,β',env,_,h1,hQ⟩
 intro fuel;induction fuel with
 |zero=>
  intro listed env s β a w hs hf hd hb hst;have hall:=CZ (fX.1 hf);refine⟨?_,done hall hb hst⟩;cases hr:Region.ready .any ops listed with
  |nil=>rfl
  |cons i rs=>
   have hi:i∈Region.ready .any ops listed:=by rw[hr];exact aZ
   obtain⟨h1,o,ho,_⟩:=fC.1 hi;have hl:i<ops.size:=(aO.1 ho).1;have h2:=hall i hl;have:i<listed.size:=by omega
   simp[this]at h1 h2;rw[h1]at h2;cases h2
 |succ fuel ih=>
  intro listed env s β a w hs hf hd hb hst;refine⟨fun hn=>done (all hs hn) hb hst,fun i hi=>?_⟩;obtain⟨h1,o,ho,hall⟩:=fC.1 hi;have hl:i<ops.size:=(aO.1 ho).1;have hll:i<listed.size:=by omega
  have hu:listed.getD i false=false:=by simp[hll]at h1⊢;exact h1
  have hr:∀e∈after.getD i [],listed.getD e false=true:=fun e he=>by
   rw[haf i o ho]at he;obtain⟨d,hd1,rfl⟩:=bw.1 he;obtain⟨hd2,hd3⟩:=dZ.1 hd1;exact hall d (by simpa using hd2) hd3
  obtain⟨m0,hmi0,hmo⟩:=hget i o (by simpa using ho);rw[bq]at hmi0;obtain⟨m,hmi,rfl⟩:=ay.1 hmi0;unfold wpOpIn;rw[ho];simp only;refine tf (K:=fun env' s'=>env'=iI m.dst env (x i)/\s'=pP s (δ i)) hmo (h.run hd hmi hu hr hb) hst fun β' env' s' a' w' h4 h5=>?_
  obtain⟨rfl,rfl⟩:=h5;have hset:∀j,j≠i->(listed.setIfInBounds i true).getD j false=listed.getD j false:=fun j hj=>getD_set_ne false (Ne.symm hj)
  have hone:(listed.setIfInBounds i true).getD i false=true:=by simp[hll]
  refine ih _ _ _ β' a' w' (by simpa using hs) ?_ (fun j hj e he=>?_) (h.next hd hmi hu hr hone hset hb) h4
  ·have:=(E3 (L:=fun j=>listed.getD j false) (L':=fun j=>(listed.setIfInBounds i true).getD j false) hu hone hset (n:=ops.size)).2 hl;omega
  ·by_cases hji:j=i
   ·subst hji;exact fL (hr e he)
   ·rw[hset j hji]at hj;exact fL (hd j hj e he)
theorem T2{P:Program}{k:Nat}{Q:Post}{env:List AV}{s:gU}{ms:List iw}{after:List gz}(hP:P.follows .mixedOrders=true)
 (h:uM P k (fun acc env s=>ux ms after acc.reverse=true/\Q .normal env s) ms [] env s):ng P k (.draw ms after) Q env s:=fun C hC _ c hc β a w hst=>by
 obtain⟨id,ops,rfl,hm,ha⟩:=DZ hc;subst hC;obtain⟨x,δ,ft,E,S,hE,hS,h1,h2,h3⟩:=yw h;rw[aV,List.reverse_reverse]at h2;obtain⟨hlen,_⟩:=uB hm;rw[aK]at hlen;have hrep:∀j,(Array.replicate ops.size false).getD j false=false:=fun j=>by
  rw[bV,Array.getElem?_replicate];split<;>rfl
 have g0:∀{β:Type}{f:Nat->Option β}{b:β}(n:Nat),gl f (fun j=>(Array.replicate ops.size false).getD j false) b n=b:=fun{β f b} n=>by
  induction n with
  |zero=>rfl
  |succ n ih=>simp only[gl];rw[ak (by rw[hrep];simp)];exact ih
 have hu:∀n,Iw (fun j=>(Array.replicate ops.size false).getD j false) n<=n:=fun n=>by
  induction n with
  |zero=>exact aC _
  |succ n ih=>simp only[Iw];rw[hrep];simp only;omega
 refine wpIn_region_any hP (FH hm ha ⟨h1,h2⟩ h3 ops.size _ env s β a _ (by simp) (hu _) (fun i hi=>?_) ⟨by rw[hE],fun t ht=>?_,fun id'=>?_⟩ hst.drew)
 ·rw[hrep]at hi;cases hi
 ·rw[g0,hE]
 ·rw[g0,hS]
def A7(ms:List iw)(after:List gz)(Q:Post)(acc:List (List Nat×List Nat))(env:List AV)(s:gU):Prop:=
 ux ms after acc.reverse=true/\Q .normal env s
def lP(P:Program)(k0:Nat)(F:List (List Nat×List Nat)->List AV->gU->Prop)(ms:List iw)(acc:List (List Nat×List Nat))(foot:List Nat)(d:Option Nat)(env:List AV)(s:gU)
 (o:qC):Prop:=yY P k0 (sat s) (fun x δ ex=>uM P k0 F ms ((ex++foot,δ.map (·.1))::acc) (iI d env x) (pP s δ)) o
def nO(P:Program)(k0:Nat)(F:List (List Nat×List Nat)->List AV->gU->Prop)(ms:List iw)(acc:List (List Nat×List Nat))(foot:List Nat)(d:Option Nat)(env:List AV)(s:gU)
 (f:Nat) (args:List AV):Prop:=RG P k0 (sat s) f args fun x δ ex=>uM P k0 F ms ((ex++foot,δ.map (·.1))::acc) (iI d env x) (pP s δ)
def Bi(P:Program)(k0:Nat)(F:List (List Nat×List Nat)->List AV->gU->Prop)(ms:List iw)(acc:List (List Nat×List Nat))(foot:List Nat)(d:Option Nat)(env:List AV)(s:gU)
 (b:Bool) (o1 o2:qC):Prop:=if b=true then lP P k0 F ms acc foot d env s o1 else lP P k0 F ms acc foot d env s o2
def yF(P:Program)(k0:Nat)(F:List (List Nat×List Nat)->List AV->gU->Prop)(b want:Bool)(m:rB)(d:Option Nat)(ms:List iw)(acc:List (List Nat×List Nat))(env:List AV)(s:gU):Prop:=
 if b=want then lP P k0 F ms acc (sH (ev env) m) d env s (kM P k0 (ev env) (sat s) m)else uM P k0 F ms (([],[])::acc) (iI d env (.lE [])) s
def UP(P:Program)(k0:Nat)(F:List (List Nat×List Nat)->List AV->gU->Prop)(want:Bool)(m:rB)(d:Option Nat)(ms:List iw)(acc:List (List Nat×List Nat))(env:List AV)(s:gU):AV->Prop
 |.d (.lit (.bool b))=>yF P k0 F b want m d ms acc env s
 |.lE []=>uM P k0 F ms (([],[])::acc) (iI d env (.lE [])) s
 |_=>False
section
variable{P:Program}{k0:Nat}{F:List (List Nat×List Nat)->List AV->gU->Prop}{b want:Bool}{m:rB}{d:Option Nat}{ms:List iw}{env:List AV}{s:gU}
 {acc:List (List Nat×List Nat)} {foot:List Nat}
theorem Ri:uM P k0 F [] acc env s=F acc env s:=(rfl)
theorem Lh:uM P k0 F (⟨d,m,none⟩::ms) acc env s=lP P k0 F ms acc (sH (ev env) m) d env s (kM P k0 (ev env) (sat s) m):=(rfl)
theorem Lg{g:Nat}:uM P k0 F (⟨d,m,some (some g,want)⟩::ms) acc env s=UP P k0 F want m d ms acc env s (env.getD g .gW):=by
 simp only[uM,gd];generalize env.getD g .gW=x;cases x with
 |d y=>cases y with
  |lit u=>cases u with
   |bool b=>
    simp only[UP,yF];cases b<;>cases want<;>rfl
   |_=>rfl
  |_=>rfl
 |lE cs=>cases cs<;>rfl
 |_=>rfl
theorem Oy{x:AV}{δ:List (Nat×Ob)}:lP P k0 F ms acc foot d env s (.ok x δ)=uM P k0 F ms ((foot,δ.map (·.1))::acc) (iI d env x) (pP s δ):=(rfl)
theorem IB{p:Prop}{o:qC}:lP P k0 F ms acc foot d env s (.need p o)=(p/\lP P k0 F ms acc foot d env s o):=(rfl)
theorem IA{f:Nat}{args:List AV}:lP P k0 F ms acc foot d env s (.call f args)=nO P k0 F ms acc foot d env s f args:=(rfl)
theorem Ox{o1 o2:qC}:lP P k0 F ms acc foot d env s (.br b o1 o2)=Bi P k0 F ms acc foot d env s b o1 o2:=(rfl)
theorem Vc{o1 o2:qC}:Bi P k0 F ms acc foot d env s true o1 o2=lP P k0 F ms acc foot d env s o1:=by simp[Bi]
theorem Vb{o1 o2:qC}:Bi P k0 F ms acc foot d env s false o1 o2=lP P k0 F ms acc foot d env s o2:=by simp[Bi]
theorem Tk:yF P k0 F true true m d ms acc env s=lP P k0 F ms acc (sH (ev env) m) d env s (kM P k0 (ev env) (sat s) m):=by simp[yF]
theorem Th:yF P k0 F false false m d ms acc env s=lP P k0 F ms acc (sH (ev env) m) d env s (kM P k0 (ev env) (sat s) m):=by simp[yF]
theorem Tj:yF P k0 F true false m d ms acc env s=uM P k0 F ms (([],[])::acc) (iI d env (.lE [])) s:=by simp[yF]
theorem Ti:yF P k0 F false true m d ms acc env s=uM P k0 F ms (([],[])::acc) (iI d env (.lE [])) s:=by simp[yF]
end
theorem Ww{P:Program}{k:Nat}{Q:Post}{env:List AV}{s:gU}{ms:List iw}{after:List gz}(hP:P.follows .mixedOrders=true)
 (h:uM P k (A7 ms after Q) ms [] env s):ng P k (.draw ms after) Q env s:=T2 hP h
theorem jy{ms:List iw}{after:List gz}{Q:Post}{acc:List (List Nat×List Nat)}{env:List AV}{s:gU}(h:ux ms after acc.reverse=true)(hq:Q .normal env s):
 A7 ms after Q acc env s:=⟨h,hq⟩
theorem TY{x:D}:TX (.d x)=M5 (qt (.d x)):=(rfl)
theorem KB{e e' id off len:Nat}{n:Int}:F6 e n (.oX e' id off len)=.need (e'=e/\0<=n/\n<len) (.ok (.ptr id (off+n.toNat*e)) []):=(rfl)
theorem P8{e:Nat}{n:Int}{x:D}:F6 e n (.d x)=Jc e n (qt (.d x)):=(rfl)
theorem KC{e e' id:Nat}{n:Int}{xs:List D}:F6 e n (.own e' id xs)=Jc e n (some (e',xs)):=(rfl)
attribute [go_sem] IQ Eh Fu IM Ng JR Ru Ri Lh Lg UP Oy IB IA Ox Vc Vb Tk Th Tj Ti B4 rq Nf Jg JQ E0 Tt L0 MK Z0 NA SS Vo Jc KB P8 KC TT RM M5 TY JN K6 JL LX BW G2 Vn EF Pa L4 Pb S7 Yc Jj Mz kM sH pP
def sJ:Value:=.slice none 0 0
theorem St.CX{C:Ctx}{β:gZ}{env:List AV}{s:gU}{a:Act}{w:World}(h:St C β env s a w){id t e:Nat}(hd:sat s id=.dead):
 St C (gY β id (.tok sJ 0)) env (sset s id (.tok t e 0)) a w/\l_ β s w (gY β id (.tok sJ 0)) (sset s id (.tok t e 0)) w:=by
 have hno:β id=.no:=by have:=h.inv.obs id;rw[hd]at this;exact this
 have noOwn:∀b o,¬own (gY β id (.tok sJ 0)) [(id,.tok t e 0)] b o:=fun b o ⟨i,hi⟩=>by
  by_cases h1:i=id
  ·subst h1;simp[sat,gY,sJ]at hi
  ·simp[sat,h1]at hi
 have noBlk:∀b,¬gR (gY β id (.tok sJ 0)) [(id,.tok t e 0)] id b:=fun b hi=>by simp[gR,sat,gY,sJ]at hi
 have m:l_ β s w (gY β id (.tok sJ 0)) (sset s id (.tok t e 0)) w:=by
  refine⟨aC _,rfl,fun b o v hc _=>hc,fun b hb _=>rfl,fun b o ho=>?_,fun i b hb=>?_,fun i=>?_⟩
  ·rcases tX ho with ho|ho
   ·exact .inl ho
   ·exact absurd ho (noOwn b o)
  ·rcases jC hb with⟨_,hb⟩|⟨_,hb⟩
   ·exact .inl ⟨i,hb⟩
   ·exact absurd hb (noBlk b)
  ·by_cases hi:i=id
   ·subst hi;simp only[gY,aB];rw[hno];trivial
   ·simp only[gY,hi,aF];exact .refl _
 refine⟨h.move m (fun i=>?_) (fun i j b hi hj=>?_),m⟩
 ·rw[jv];by_cases hi:i=id
  ·subst hi;simp only[aB,uu];exact⟨sJ,by simp[gY],.inl ⟨rfl,rfl⟩⟩
  ·simp only[hi,aF];exact(h.inv.obs i).vc m (by simp[gY,hi]) (fun b hb=>rfl) rfl
 ·rcases jC hi with⟨hi1,hi2⟩|⟨rfl,hi2⟩<;>rcases jC hj with⟨hj1,hj2⟩|⟨rfl,hj2⟩
  ·exact h.inv.inj i j b hi2 hj2
  ·exact absurd hj2 (noBlk b)
  ·exact absurd hi2 (noBlk b)
  ·rfl
theorem CF{O:Own}{w:World}{e0:Nat}{v:Value}(h:D.ok O w (.sl e0 (some true) []) v):v=sJ:=by
 simp only[D.ok,JY]at h;obtain⟨a,cap,h1,_,⟨rfl,rfl⟩,_⟩:=h;simpa[sJ]using h1
theorem BI{β:gZ}{O:Own}{w:World}{e id:Nat}(hb:β id=.tok sJ 0):AV.ok β O w (.own e id []) sJ:=by
 simp only[AV.ok,D.ok,JY];exact⟨⟨none,0,by simp[sJ],by simp[IE],trivial,by simp⟩,sJ,0,by rw[hb];exact⟨rfl,rfl⟩,aC _,fun _=>rfl⟩
theorem ij.Q9{k:Nat}{env:List AV}{s:gU}(i id t e:Nat){e0:Nat}(hd:sat s id=.dead)(hi:env[i]?=some (.d (.sl e0 (some true) []))):
 ij k env s (env.set i (.own e id [])) (sset s id (.tok t e 0)):=fun _ _ _ _ _ hst=>by
 obtain⟨h1,m⟩:=hst.CX (t:=t) (e:=e) hd;refine⟨_,h1.defers,h1.inv,by rw[h1.len,ff],fun j x hj=>?_⟩;rw[dU]at hj;split at hj
 ·rename_i hij;subst hij;split at hj
  ·cases hj;have:=hst.env i _ hi;simp only[AV.ok]at this;rw[CF this];exact BI (by simp[gY])
  ·cases hj
 ·exact h1.env j x hj
theorem St.Ur{C:Ctx}{β:gZ}{env:List AV}{s:gU}{a:Act}{w:World}(h:St C β env s a w){o t:Nat}{cs cs':List AV}(ho:sat s o=.obj t cs)
 (hc:∀vs,AV.ir β (C.gX β s) w cs vs->AV.ir β (C.gX β s) w cs' vs):St C β env (sset s o (.obj t cs')) a w:=by
 have hown:∀b x,own β (sset s o (.obj t cs')) b x<->own β s b x:=fun b x=>by
  constructor<;>rintro⟨i,hi⟩<;>refine⟨i,?_⟩<;>rw[jv]at*<;>by_cases hio:i=o
  ·subst hio;simp only[aB]at hi;rw[ho];exact hi
  ·simpa[hio]using hi
  ·subst hio;rw[ho]at hi;simpa using hi
  ·simpa[hio]using hi
 have hblk:∀i b,gR β (sset s o (.obj t cs')) i b<->gR β s i b:=fun i b=>by
  unfold gR;rw[jv];by_cases hio:i=o
  ·subst hio;simp[ho]
  ·simp[hio]
 have m:l_ β s w β (sset s o (.obj t cs')) w:=
  ⟨aC _,rfl,fun b o v hc _=>hc,fun b hb _=>rfl,fun b x hx=>.inl ((hown b x).1 hx),fun i b hb=>.inl ⟨i,(hblk i b).1 hb⟩,fun i=>.refl _⟩
 refine h.move m (fun i=>?_) (fun i j b hi hj=>h.inv.inj i j b ((hblk i b).1 hi) ((hblk j b).1 hj));rw[jv];by_cases hio:i=o
 ·subst hio;simp only[aB];have:=h.inv.obs i;rw[ho]at this;obtain⟨b,vs,h1,h2,h3,h4⟩:=this;exact⟨b,vs,h1,h2,h3,h4.imp fun _ h=>m.ir (hc _ h)⟩
 ·simp only[hio,aF];exact(h.inv.obs i).vc m rfl (fun b hb=>rfl) rfl
theorem EL{β:gZ}{O:Own}{w:World}{y:AV}:∀{cs:List AV}{vs:List Value}{j:Nat}{x:AV},cs[j]?=some x->(∀v,AV.ok β O w x v->AV.ok β O w y v)->AV.ir β O w cs vs->AV.ir β O w (cs.set j y) vs
 |[],vs,j,x,hj,_,_=>by simp at hj
 |c::cs,vs,0,x,hj,hy,h=>by
  simp only[AV.ir,eR]at h⊢;simp at hj;subst hj;obtain⟨v,r,h1,h2,h3⟩:=h;exact⟨v,r,h1,hy v h2,h3⟩
 |c::cs,vs,j+1,x,hj,hy,h=>by
  simp only[AV.ir,fG]at h⊢;obtain⟨v,r,h1,h2,h3⟩:=h;exact⟨v,r,h1,h2,EL (by simpa using hj) hy h3⟩
theorem ij.wh{k:Nat}{env:List AV}{s:gU}(o j id t e:Nat){e0 t':Nat}{cs:List AV}(hd:sat s id=.dead)(ho:sat s o=.obj t' cs)(hj:cs[j]?=some (.d (.sl e0 (some true) []))):
 ij k env s env (sset (sset s id (.tok t e 0)) o (.obj t' (cs.set j (.own e id [])))):=fun _ _ _ _ _ hst=>by
 obtain⟨h1,m⟩:=hst.CX (t:=t) (e:=e) hd;have hoi:o≠id:=by rintro rfl;rw[hd]at ho;cases ho
 refine⟨_,h1.Ur (cs:=cs) (by rw[jv,ak hoi,ho]) fun _ hv=>EL hj (fun _ hv=>?_) hv⟩;simp only[AV.ok]at hv;rw[CF hv];exact BI (by simp[gY])
def D.le(x y:D):Prop:=∀O w vs,D.FA O w x vs->D.FA O w y vs
def pQ:List D->List D->Prop
 |[],[]=>True
 |x::xs,y::ys=>D.le x y/\pQ xs ys
 |_,_=>False
theorem D.le_refl(x:D):D.le x x:=fun _ _ _ h=>h
theorem pQ.refl:∀xs:List D,pQ xs xs
 |[]=>trivial
 |x::xs=>⟨D.le_refl x,pQ.refl xs⟩
theorem pQ.length:∀{xs ys:List D},pQ xs ys->xs.length=ys.length
 |[],[],_=>rfl
 |_::_,_::_,h=>by simp[pQ.length h.2]
 |[],_::_,h=>h.elim
 |_::_,[],h=>h.elim
theorem pQ.append:∀{xs ys us vs:List D},pQ xs ys->pQ us vs->pQ (xs++us) (ys++vs)
 |[],[],_,_,_,h=>h
 |_::_,_::_,_,_,h,k=>⟨h.1,pQ.append h.2 k⟩
 |[],_::_,_,_,h,_=>h.elim
 |_::_,[],_,_,h,_=>h.elim
theorem pQ.row{O:Own}{w:World}{b e:Nat}:∀{xs ys:List D}{o:Nat},pQ xs ys->D.row O w b o e xs->D.row O w b o e ys
 |[],[],_,_,h=>h
 |_::_,_::_,_,h,hr=>by
  rw[D.mg]at hr⊢;obtain⟨⟨vs,h1,h2,h3⟩,h4⟩:=hr;exact⟨⟨vs,h1,h2,h.1 O w vs h3⟩,pQ.row h.2 h4⟩
 |[],_::_,_,h,_=>h.elim
 |_::_,[],_,h,_=>h.elim
theorem S6{O:Own}{w:World}{e:Nat}{nl:Option Bool}{xs ys:List D}{v:Value}(h:pQ xs ys)(hv:D.ok O w (.sl e nl xs) v):D.ok O w (.sl e nl ys) v:=by
 simp only[D.ok]at hv⊢;obtain⟨a,cap,h1,h2,h3,h4⟩:=hv;refine⟨a,cap,by rw[<-h.length];exact h1,by rw[<-h.length];exact h2,h3,?_⟩;rcases h4 with h4|⟨b,o,h5,h6⟩
 ·subst h4;cases ys with
  |nil=>exact .inl rfl
  |cons y ys=>exact h.elim
 ·exact .inr ⟨b,o,h5,h.row h6⟩
theorem AV.CC{e:Nat}{nl:Option Bool}{xs ys:List D}(h:pQ xs ys):AV.le (.d (.sl e nl xs)) (.d (.sl e nl ys)):=fun _ _ _ _ hv=>by
 simp only[AV.ok]at hv⊢;exact S6 h hv
theorem AV.sO{e id:Nat}{xs ys:List D}(h:pQ xs ys):AV.le (.own e id xs) (.own e id ys):=fun _ _ _ _ hv=>by
 simp only[AV.ok]at hv⊢;obtain⟨h1,u,n,h2,h3,h4⟩:=hv;exact⟨S6 h h1,u,n,h2,by rw[<-h.length];exact h3,by rw[<-h.length];exact h4⟩
def XH(pv:Value):Exit:=.panic [{v:=pv,recovered:=false}]
def XE(pv:Value)(e:Ending)(v:Value):Prop:=(∃u,e=.returned u/\v=.tuple #[u,.bool true])\/(e=.panicked [{v:=pv,recovered:=false}]/\v=.tuple #[.bool false,.bool false])
def okB(b:Bool):AV:=.d (.lit (.bool b))
def XK(Q:Post)(pv:Value)(d:Option Nat)(x:AV)(env:List AV)(s:gU):Prop:=∃y b,x=.lE [y,okB b]/\(b=true->Q .normal (iI d env y) s)/\(b=false->Q (XH pv) env s)
def ri(P:Program)(k0:Nat)(pv:Value)(Q:Post)(m:iw)(env:List AV)(s:gU):Prop:=
 match m.op with
 |.me f args=>Mw (XE pv) P k0 f (args.map (ev env)) env s (XK Q pv m.dst)
 |.Da x=>ev env x=.d (.lit pv)/\(∃t u,pv=.iface t u)/\Q (XH pv) env s
 |_=>False
section
variable{P:Program}{o:Oper}
theorem HZ{f:Nat}{args:List Operand}(hm:jI P o=some (.me f args)):∃c:Call,o.op=.call c/\c.callee=.value (.func f)/\enters P f=true/\c.args.toList=args:=by
 unfold jI at hm;split at hm
 case h_19 c hop=>
  split at hm
  ·rename_i g hc;split at hm
   ·rename_i he;cases hm;exact⟨c,hop,hc,he,rfl⟩
   ·cases hm
  all_goals exfalso
  all_goals repeat(first
   |(cases hm;done)
   |(simp only[ai,ay]at hm)
   |(obtain⟨_,_,hm⟩:=hm)
   |split at hm)
 all_goals exfalso
 all_goals repeat(first
  |(cases hm;done)
  |(simp only[ai,ay]at hm)
  |(obtain⟨_,_,hm⟩:=hm)
  |split at hm)
theorem Nk{x:Operand}(hm:jI P o=some (.Da x)):o.op=.panic x:=by
 unfold jI at hm;split at hm
 case h_20 y hop=>cases hm;exact hop
 all_goals exfalso
 all_goals repeat(first
  |(cases hm;done)
  |(simp only[ai,ay]at hm)
  |(obtain⟨_,_,hm⟩:=hm)
  |split at hm)
end
theorem CA{P:Program}{C:Ctx}{ops:Array Oper}{o:Oper}{m:iw}(hm:oW P ops o=some m.erase)(hg:m.guard=none){env:List AV}{s:gU}{pv:Value}{Q:Post}(hk:ri P C.k pv Q m env s)
 {β:gZ} {a:Act} {w:World} (hst:St C β env s a w) {N:Act->World->Prop} (hN:∀a' w',(∃C',Ext C C'/\∃β' env' s',St C' β' env' s' a' w'/\Q .normal env' s')->N a' w'):
 o.guard=none/\o.wpIn C.nP 0 P a w N (fun e a' w'=>∃C',Ext C C'/\∃β' env' s',St C' β' env' s' a' w'/\Q e env' s'):=by
 obtain⟨h1,h2,h3⟩:=sX hm;have hgo:o.guard=none:=by
  rw[hg]at h3;cases hq:o.guard with
  |none=>rfl
  |some p=>rw[hq]at h3;cases h3
 refine⟨hgo,?_⟩;unfold ri at hk;split at hk
 ·rename_i f args hop;have h1':jI P o=some (.me f args):=by
   rw[hop]at h1;cases hq:jI P o with
   |some x=>rw[hq]at h1;rw[Option.getD_some]at h1;rw[<-h1];rfl
   |none=>rw[hq]at h1;cases h1
  obtain⟨c,hoc,hc,he,rfl⟩:=HZ h1';have hnd:∀c,o.op≠ .defer c:=fun c' hc'=>by rw[hoc]at hc';cases hc'
  have hargs:AV.ir β (C.gX β s) w (c.args.toList.map (ev env)) (c.args.map a.eval).toList:=by rw[dB];exact yZ hst c.args.toList
  have hrun:(execOp a.eval o).run P w=.ok (.enter f (c.args.map a.eval)) w:=by
   simp only[execOp,hoc,resolve,hc,Act.eval,Deferred.ofValue,aX,bp,aJ,invoke];rw[show #[]++c.args.map a.eval++#[]=c.args.map a.eval by simp];exact xz he _ _
  refine⟨fun _ _=>trivial,?_⟩;rw[ec _ _ _ hnd,hrun,Oper.uponIn_enter];refine⟨fun h=>by simp[Ctx.nP]at h,Ca.2 ((A5 hk hst hargs).mono ?_)⟩;rintro e w' ⟨v,x,β',s',hE,hst',hx,y,b,rfl,hq1,hq2⟩;rcases hE with⟨u,rfl,rfl⟩|⟨rfl,rfl⟩
  ·simp only[AV.ok,AV.ir,okB,D.ok]at hx;obtain⟨vs,hvs,v1,r1,e1,hy,v2,r2,e2,hb,hr⟩:=hx;cases hvs;simp only[bR]at e1;obtain⟨rfl,rfl⟩:=e1;simp only[bR]at e2;obtain⟨rfl,rfl⟩:=e2;have hb':b=true:=by simpa using hb.1.symm
   refine hN _ _ ⟨C,.refl C,β',_,s',hst'.put hy o.dst,?_⟩;have:=hq1 hb';rwa [h2]at this
  ·simp only[AV.ok,AV.ir,okB,D.ok]at hx;obtain⟨vs,hvs,v1,r1,e1,hy,v2,r2,e2,hb,hr⟩:=hx;cases hvs;simp only[bR]at e1;obtain⟨rfl,rfl⟩:=e1;simp only[bR]at e2;obtain⟨rfl,rfl⟩:=e2;have hb':b=false:=by simpa using hb.1.symm
   exact⟨C,.refl C,β',_,s',hst',hq2 hb'⟩
 ·rename_i x hop;obtain⟨hx,⟨t,u,rfl⟩,hq⟩:=hk;have h1':jI P o=some (.Da x):=by
   rw[hop]at h1;cases hq:jI P o with
   |some x=>rw[hq]at h1;rw[Option.getD_some]at h1;rw[<-h1];rfl
   |none=>rw[hq]at h1;cases h1
  have hoc:=Nk h1';have hnd:∀c,o.op≠ .defer c:=fun c' hc'=>by rw[hoc]at hc';cases hc'
  refine⟨fun _ _=>trivial,?_⟩;have hxv:=hst.ev x;rw[hx]at hxv;have hxv:a.eval x=.iface t u:=qc hxv;have hrun:(execOp a.eval o).run P w=.halt (.panic (.iface t u)) w:=by
   simp only[execOp,hoc,hxv];rfl
  rw[ec _ _ _ hnd,hrun,Oper.uponIn_panic];exact⟨C,.refl C,β,env,s,hst,hq⟩
 ·exact hk.elim
theorem Bg{P:Program}{C:Ctx}{ops:Array Oper}{Q:Post}{m:iw}{pv:Value}(hg:m.guard=none):∀(n i:Nat)(ms:List iw)(env:List AV)(s:gU),i+n+1=ops.size->ms.length=n->
 (ops.toList.drop i).mapM (oW P ops)=some ((ms++[m]).map iw.erase)->sS P C.k ms env s (ri P C.k pv Q m)->
 ∀(β:gZ)(a:Act)(w:World),St C β env s a w->wpOpsIn C.nP 0 P ops (fun e a' w'=>∃C',Ext C C'/\∃β' env' s',St C' β' env' s' a' w'/\Q e env' s') (List.range' i (n+1)) a w
 |0,i,ms,env,s=>fun hi hms hm hk β a w hst=>by
  have hms':ms=[]:=bP.1 hms;subst hms';have hlt:i<ops.toList.length:=by simp;omega
  rw[aE hlt]at hm;simp only[cn,b_,ai,bh,aN,dy]at hm;obtain⟨m0,h1,ms0,h2,h3⟩:=hm;simp only[dG,aM,bR]at h3;obtain⟨rfl,rfl⟩:=h3;have ho:ops[i]?=some ops.toList[i]:=by simp at hlt;simp[hlt]
  obtain⟨k1,k2⟩:=CA h1 hg (show ri P C.k pv Q m env s from hk) hst (N:=fun a' w'=>∃C',Ext C C'/\∃β' env' s',St C' β' env' s' a' w'/\Q .normal env' s') fun _ _ h=>h
  rw[show List.range' i (0+1)=[i]from rfl];simp only[wpOpsIn];rw[ho];simp only;rw[ah (vj k1)];exact k2
 |n+1,i,ms,env,s=>fun hi hms hm hk β a w hst=>by
  have hlt:i<ops.toList.length:=by simp;omega
  rw[aE hlt]at hm;simp only[cn,b_,ai]at hm;obtain⟨m0,h1,ms0,h2,h3⟩:=hm;cases ms with
  |nil=>cases hms
  |cons m' ms'=>
  simp only[bZ,aN,dG,aM,bR]at h3;obtain⟨rfl,rfl⟩:=h3;rw[dL];simp only[wpOpsIn];have ho:ops[i]?=some ops.toList[i]:=by simp at hlt;simp[hlt]
  rw[ho];simp only;refine tf (K:=fun env s=>sS P C.k ms' env s (ri P C.k pv Q m)) h1 ?_ hst fun β' env' s' a' w' h4 h5=>Bg hg n (i+1) ms' env' s' gN (by simpa using hms) h2 h5 β' a' w' h4
  simpa only[sS]using hk
theorem HW{P:Program}{k:Nat}{Q:Post}{env:List AV}{s:gU}{ms:List iw}{m:iw}(pv:Value)(hg:m.guard=none)(h:sS P k ms env s (ri P k pv Q m)):ng P k (.gQ (ms++[m])) Q env s:=
 fun C hC _ c hc β a w hst=>by
 obtain⟨id,ops,rfl,hm⟩:=zR hc;subst hC;refine wpIn_region ?_;have hsz:ms.length+1=ops.size:=by
  have:=gj _ _ hm;simpa using this
 have:=Bg (Q:=Q) (ops:=ops) hg ms.length 0 ms env s gN rfl (by simpa using hm) h β a w hst;rwa [show ops.size=ms.length+1 by omega,dI]
theorem Eo{P:Program}{C:Ctx}{ops:Array Oper}{Q:Post}{pv:Value}{m0:iw}(hg0:m0.guard=none){ms:List iw}{after:List gz}{x:Nat->AV}{δ:Nat->List (Nat×Ob)}{ft:Nat->List Nat×List Nat}
 {E:Nat->List AV} {S:Nat->gU} (hm:ops.toList.mapM (oW P ops)=some ((ms++[m0]).map iw.erase)) (hlast:∀i,i<ms.length->i∈(FC after).getD ms.length []) (ha:after=ops.toList.map fun o=>(o.after.toList.filter (Region.binds .any)).map (·.on))
 (h:qv P C.k ms after x δ ft E S) (hQ:ri P C.k pv Q m0 (E ms.length) (S ms.length)):
 ∀(fuel:Nat)(listed:Array Bool)(env:List AV)(s:gU)(β:gZ)(a:Act)(w:World),listed.size=ops.size->Iw (fun j=>listed.getD j false) ops.size<=fuel->listed.getD ms.length false=false->
  (∀i,listed.getD i false=true->∀e∈after.getD i [],listed.getD e false=true)->Bh E S ms x δ (fun j=>listed.getD j false) env s->St C β env s a w->
  wpAnyIn C.nP 0 P .any ops (fun e a' w'=>∃C',Ext C C'/\∃β' env' s',St C' β' env' s' a' w'/\Q e env' s') fuel listed a w:=by
 obtain⟨hlen,hget⟩:=uB hm;rw[aK,aq]at hlen;have hsz:ms.length+1=ops.size:=by simpa using hlen
 have haf:∀i o,ops[i]?=some o->after.getD i []=(o.after.toList.filter (Region.binds .any)).map (·.on):=fun i o ho=>by rw[ha,av,bq,Array.getElem?_toList,ho];rfl
 have hcl:vL after (FC after)=true:=by
  have:=h.ok;simp only[ux,bE]at this;exact this.1
 have hback:∀i,∀e∈after.getD i [],e<i:=fun i e he=>by
  have hc:=hcl;simp only[vL,bE,cm,cW,aA]at hc;have hi:i<after.length:=by
   rcases cH i after.length with h'|h'
   ·exact h'
   ·rw[av,bN h']at he;simp at he
  exact hc.1 i hi e he
 have isReady:∀{listed:Array Bool},listed.size=ops.size->∀{i:Nat},i<ops.size->listed.getD i false=false->(∀e∈after.getD i [],listed.getD e false=true)->
  i∈Region.ready .any ops listed:=fun{listed} hs {i} hi hu hr=>by
  rw[fC];have ho:ops[i]?=some ops[i]:=cM hi;refine⟨?_,_,ho,fun e he hb=>hr _ ?_⟩
  ·have:i<listed.size:=by omega
   simpa[this]using hu
  ·rw[haf i _ ho];exact bw.2 ⟨e,dZ.2 ⟨by simpa using he,hb⟩,rfl⟩
 have none_ready:∀{listed:Array Bool},listed.size=ops.size->(∀i,i<ops.size->listed.getD i false=true)->Region.ready .any ops listed=[]:=fun{listed} hs hall=>by
  cases hr:Region.ready .any ops listed with
  |nil=>rfl
  |cons i rs=>
   have hi:i∈Region.ready .any ops listed:=by rw[hr];exact aZ
   obtain⟨h1,o,ho,_⟩:=fC.1 hi;have hl:i<ops.size:=(aO.1 ho).1;have h2:=hall i hl;have:i<listed.size:=by omega
   simp[this]at h1 h2;rw[h1]at h2;cases h2
 have all:∀{listed:Array Bool},listed.size=ops.size->Region.ready .any ops listed=[]->∀i,i<ops.size->listed.getD i false=true:=fun{listed} hs hn i=>by
  induction i using Nat.strongRecOn with
  |ind i ih=>
   intro hi;cases hu:listed.getD i false with
   |true=>rfl
   |false=>
    have:=isReady hs hi hu fun e he=>ih e (hback i e he) (by have:=hback i e he;omega)
    rw[hn]at this;cases this
 have done:∀{listed:Array Bool}{env:List AV}{s:gU},(∀i,i<ms.length->listed.getD i false=true)->
  Bh E S ms x δ (fun j=>listed.getD j false) env s->env=E ms.length/\∀id,sat s id=sat (S ms.length) id:=fun{listed env s} hall hb=>by
  have hb':=hb.env (L':=fun _=>true) fun j hj=>hall j hj
  have e1:env=E ms.length:=by
   refine en fun t=>?_
   by_cases ht:t<(E 0).length
   ·have h1:=hb'.slot t ht;rw[<-h.slot ht (aC _)]at h1;have l1:t<env.length:=by rw[hb'.len];exact ht
    have l2:t<(E ms.length).length:=by rw[h.len (aC _)];exact ht
    rw[av,av,az l1,az l2]at h1;rw[az l1,az l2];simpa using h1
   ·rw[bN (by rw[hb'.len];omega),bN (by rw[h.len (aC _)];omega)]
  exact⟨e1,fun id=>by rw[hb'.obj id,<-h.obj id (aC _)]⟩
 intro fuel;induction fuel with
 |zero=>
  intro listed env s β a w hs hf hu0 hd hb hst;exact absurd (CZ (fX.1 hf) ms.length gN) (by rw[hu0];simp)
 |succ fuel ih=>
  intro listed env s β a w hs hf hu0 hd hb hst;refine⟨fun hn=>absurd (all hs hn ms.length gN) (by rw[hu0];simp),fun i hi=>?_⟩;obtain⟨h1,o,ho,hall⟩:=fC.1 hi;have hl:i<ops.size:=(aO.1 ho).1;have hll:i<listed.size:=by omega
  have hu:listed.getD i false=false:=by simp[hll]at h1⊢;exact h1
  have hr:∀e∈after.getD i [],listed.getD e false=true:=fun e he=>by
   rw[haf i o ho]at he;obtain⟨d,hd1,rfl⟩:=bw.1 he;obtain⟨hd2,hd3⟩:=dZ.1 hd1;exact hall d (by simpa using hd2) hd3
  obtain⟨m0',hmi0,hmo⟩:=hget i o (by simpa using ho);rw[bq]at hmi0;obtain⟨m,hmi,rfl⟩:=ay.1 hmi0;unfold wpOpIn;rw[ho];simp only;have hset:∀j,j≠i->(listed.setIfInBounds i true).getD j false=listed.getD j false:=fun j hj=>getD_set_ne false (Ne.symm hj)
  have hone:(listed.setIfInBounds i true).getD i false=true:=by simp[hll]
  by_cases hin:i=ms.length
  ·subst hin;rw[bz (aC _),cL]at hmi;cases hmi;have hall':∀i,i<ms.length->listed.getD i false=true:=fun j hj=>xw hcl hd ms.length hr j (hlast j hj)
   obtain⟨e1,e2⟩:=done hall' hb;rw[<-e1]at hQ;obtain⟨β1,hst1⟩:=ij.S_ (k:=C.k) (env:=env) e2 C β a w rfl hst;have hN:∀a' w',(∃C',Ext C C'/\∃β' env' s',St C' β' env' s' a' w'/\Q .normal env' s')->
    wpAnyIn C.nP 0 P .any ops (fun e a' w'=>∃C',Ext C C'/\∃β' env' s',St C' β' env' s' a' w'/\Q e env' s') fuel (listed.setIfInBounds ms.length true) a' w':=fun a' w' hq=>by
    have hnr:Region.ready .any ops (listed.setIfInBounds ms.length true)=[]:=none_ready (by simpa using hs) fun j hj=>by
     by_cases hj':j=ms.length
     ·subst hj';exact hone
     ·rw[hset j hj'];exact hall' j gN
    cases fuel with
    |zero=>exact⟨hnr,hq⟩
    |succ fuel=>exact⟨fun _=>hq,fun j hj=>by rw[hnr]at hj;cases hj⟩
   obtain⟨k1,k2⟩:=CA (Q:=Q) hmo hg0 hQ hst1 hN;rw[ah (vj k1)];exact k2
  ·have hlt:i<ms.length:=by omega
   rw[aT hlt]at hmi;refine tf (K:=fun env' s'=>env'=iI m.dst env (x i)/\s'=pP s (δ i)) hmo (h.run hd hmi hu hr hb) hst fun β' env' s' a' w' h4 h5=>?_
   obtain⟨rfl,rfl⟩:=h5;refine ih _ _ _ β' a' w' (by simpa using hs) ?_ (by rw[hset _ (Ne.symm hin)];exact hu0) (fun j hj e he=>?_) (h.next hd hmi hu hr hone hset hb) h4
   ·have:=(E3 (L:=fun j=>listed.getD j false) (L':=fun j=>(listed.setIfInBounds i true).getD j false) hu hone hset (n:=ops.size)).2 hl;omega
   ·by_cases hji:j=i
    ·subst hji;exact fL (hr e he)
    ·rw[hset j hji]at hj;exact fL (hd j hj e he)
theorem Qi{P:Program}{k:Nat}{Q:Post}{env:List AV}{s:gU}{ms:List iw}{m0:iw}{after:List gz}(pv:Value)(hP:P.follows .mixedOrders=true)(hg0:m0.guard=none)
 (hlast:((List.range ms.length).all fun i=>((FC after).getD ms.length []).contains i)=true)
 (h:uM P k (fun acc env s=>ux ms after acc.reverse=true/\ri P k pv Q m0 env s) ms [] env s):ng P k (.draw (ms++[m0]) after) Q env s:=fun C hC _ c hc β a w hst=>by
 obtain⟨id,ops,rfl,hm,ha⟩:=DZ hc;subst hC;obtain⟨x,δ,ft,E,S,hE,hS,h1,h2,h3⟩:=yw h;rw[aV,List.reverse_reverse]at h2;obtain⟨hlen,_⟩:=uB hm;rw[aK,aq]at hlen;have hsz:ms.length+1=ops.size:=by simpa using hlen
 have hrep:∀j,(Array.replicate ops.size false).getD j false=false:=fun j=>by
  rw[bV,Array.getElem?_replicate];split<;>rfl
 have g0:∀{β:Type}{f:Nat->Option β}{b:β}(n:Nat),gl f (fun j=>(Array.replicate ops.size false).getD j false) b n=b:=fun{β f b} n=>by
  induction n with
  |zero=>rfl
  |succ n ih=>simp only[gl];rw[ak (by rw[hrep];simp)];exact ih
 have hu:∀n,Iw (fun j=>(Array.replicate ops.size false).getD j false) n<=n:=fun n=>by
  induction n with
  |zero=>exact aC _
  |succ n ih=>simp only[Iw];rw[hrep];simp only;omega
 have hlast':∀i,i<ms.length->i∈(FC after).getD ms.length []:=fun i hi=>by
  rw[cm]at hlast;simpa using hlast i (cW.2 hi)
 refine wpIn_region_any hP (Eo hg0 hm hlast' ha ⟨h1,h2⟩ h3 ops.size _ env s β a _ (by simp) (hu _) (hrep _) (fun i hi=>?_) ⟨by rw[hE],fun t ht=>?_,fun id'=>?_⟩ hst.drew)
 ·rw[hrep]at hi;cases hi
 ·rw[g0,hE]
 ·rw[g0,hS]
def FO(pv:Value)(rs:List rW)(R:AV->gU->Prop):Post
 |.normal,env,s=>vg env s rs fun xs=>R (.lE [sI xs,okB true]) s
 |.ret,env,s=>vg env s rs fun xs=>R (.lE [sI xs,okB true]) s
 |.panic ch,_,s=>ch=[{v:=pv,recovered:=false}]/\R (.lE [okB false,okB false]) s
 |_,_,_=>False
theorem xK{P:Program}{fn:Func}{tmps:Array Value}{R:Ending->World->Prop}{ch:List PanicEntry}(Z:World->Prop){B:Nat}
 (hZ:∀w w' D,Z w->w.grownBy w' (some D)->B<=D->(∃o:Obj,w.heap[D]?=some o/\Ai o)->Z w')
 (hfin:∀w,Z w->R (.panicked ch) w):
 ∀(Ds:List Nat)(w:World),Ds.Nodup->(∀D∈Ds,B<=D/\w.heap[D]?=some (.deferred (some [])))->Z w->LeavesInM Fence.wide 0 P fn tmps R (Ds.map xL) (.panicking ch) w
 |[],w,_,_,hz=>by simp only[dy,LeavesInM,LeavesIn];exact hfin w hz
 |D::Ds,w,hn,hd,hz=>by
  simp only[aN,LeavesInM];have h1:=hd D aZ;rw[cu]at hn;refine⟨by simp,.inl ⟨D,_,rfl,run_takeDeferred h1.2,xK Z hZ hfin Ds _ hn.2 (fun D' hD'=>?_) ?_⟩⟩
  ·have h2:=hd D' (a_ _ hD');exact⟨h2.1,(dx fun e=>hn.1 (by rw[<-e];exact hD')).trans h2.2⟩
  ·exact hZ _ _ D hz (eO w D _) h1.1 ⟨_,h1.2,rfl,rfl⟩
theorem Lo{pv:Value}{P:Program}{f:Nat}{fn:Func}{c:Code}{mc:gV}{rs:List rW}{args:List AV}{s:gU}{k n:Nat}{R:AV->gU->Prop}
 (hf:P.funcs[f]?=some fn) (hb:fn.body=some c) (hm:mq P c=some mc.erase) (hn:fn.ntmps=n) (hr:fn.results.toList.mapM (wM P)=some rs)
 (h:ng P k mc (FO pv rs R) (args++List.replicate (n-args.length) .gW) s):oH (XE pv) P f args s k R:=by
 intro C vs hCs hCk hinv hargs;have hlen:=AV.iC hargs;let C0:Ctx:={C with ro:=none,dom:=C.w.heap.size,nm:=false};refine callsIn_wide.1 (callsIn_of_wp_marks (F:=Fence.wide) (n:=0) hf hb trivial ?_);have hst:St C0 C.β (args++List.replicate (n-args.length) .gW) s {tmps:=vs++Array.replicate (fn.ntmps-vs.size) undef,defers:=[]} C.w:=by
  refine⟨.nil,hCs▸hinv.ro none C.w.heap.size,?_,fun i x hx=>?_⟩
  ·simp at hlen;simp[hn,hlen]
  ·rw[hCs]at hargs;rw[eF]at hx;split at hx
   ·rename_i hi;have hi2:i<vs.size:=by simp at hlen;omega
    have h1:(vs++Array.replicate (fn.ntmps-vs.size) undef).getD i undef=vs[i]:=by simp[bV,fk,hi2]
    rw[h1];exact(AV.je.1 hargs).2 i x _ hx (by simp[hi2])
   ·have:x=.gW:=by
     rw[dw]at hx;split at hx
     ·cases hx;rfl
     ·cases hx
    subst this;simp[AV.ok]
 refine dJ (h C0 hCk (.inr ⟨rfl,rfl,aC _⟩) c hm C.β _ _ hst) fun e a' w' he=>?_
 obtain⟨C',hx,β',env',s',hst',hq⟩:=he;have fin:vg env' s' rs (fun xs=>R (.lE [sI xs,okB true]) s')->LeavesInM Fence.wide 0 P fn a'.tmps (fun e w'=>∃v x β' s',XE pv e v/\Inv C β' s' w'/\AV.ok β' (C.gX β' s') w' x v/\R x s') a'.defers .returning w':=fun hq=>by
  obtain⟨_,Ds,hDs,hnd,hmk⟩:=hst'.defers;rw[hDs];refine wJ (B:=C.w.heap.size) (fun w=>Inv C0 β' s' w/\∀i x,env'[i]?=some x->AV.ok β' (C0.gX β' s') w x (a'.tmps.getD i undef)) (fun w1 w2 D hz hg hB ho=>?_) (fun w1 hz=>?_) Ds w' hnd (fun D hD=>?_) ⟨hx.inv _ _ _ hst'.inv,fun i x hi=>?_⟩
  ·have hr:∀r,some D=some r->∃o:Obj,w1.heap[r]?=some o/\Ai o:=fun r e=>by cases e;exact ho
   exact⟨hz.1.oM hg fun r e=>⟨by cases e;exact hB,hr r e⟩,fun i x hi=>AV.iN (fun b o v hc hn=>⟨eG hc hg (Bw hr),hn⟩) (fun _=>.refl _) _ _ (hz.2 i x hi)⟩
  ·have hst1:St C0 β' env' s' {a' with defers:=[]} w1:=⟨.nil,hz.1,hst'.len,hz.2⟩;obtain⟨us,xs,h1,h2,h3⟩:=BK hst1 fn.results.toList rs _ hr hq;refine⟨if h:us.toArray.size=1 then us.toArray[0]else .tuple us.toArray,?_,.tuple #[if h:us.toArray.size=1 then us.toArray[0]else .tuple us.toArray,.bool true],.lE [sI xs,okB true],β',s',.inl ⟨_,rfl,rfl⟩,hz.1.XT,?_,h3⟩
   ·rw[zg,dX];simp only[aX,Sem.run_map];rw[h1];simp only[aJ,bp]
   ·have hl:=AV.iC h2;have hfb:C0.gX β' s'=C.gX β' s':=rfl;rw[hfb]at h2
    suffices hq:AV.ok β' (C.gX β' s') w1 (sI xs) (if h:us.toArray.size=1 then us.toArray[0]else .tuple us.toArray) by
     simp only[AV.ok,AV.ir,okB,D.ok];exact⟨_,rfl,_,_,rfl,hq,_,_,rfl,⟨rfl,rfl⟩,rfl⟩
    match xs,us,h2 with
    |[x],[u],h2=>
     simp only[AV.ir]at h2;obtain⟨_,_,h4,h5,h6⟩:=h2;cases h4;simpa[sI]using h5
    |[],[],h2=>simp only[sI,AV.ok];exact⟨#[],by simp,by simp[AV.ir]⟩
    |x::y::xs,u::v::us,h2=>
     simp only[sI,AV.ok];exact⟨(u::v::us).toArray,by simp,by simpa using h2⟩
  ·obtain⟨h1,h2,h3,h4⟩:=hmk D hD;exact⟨by rw[hx.dom]at h1;exact h1,(hst'.inv.oE D h2 h4).trans h3⟩
  ·have:=hst'.env i x hi;rwa [hx.gX]at this
 cases e with
 |normal=>exact fin hq
 |ret=>exact fin hq
 |exit id=>exact hq.elim
 |goto l=>exact hq.elim
 |panic ch=>
  obtain⟨rfl,hr'⟩:=hq;obtain⟨_,Ds,hDs,hnd,hmk⟩:=hst'.defers;show LeavesInM _ _ _ _ _ _ _ _ _;rw[hDs];refine xK (B:=C.w.heap.size) (fun w=>Inv C0 β' s' w) (fun w1 w2 D hz hg hB ho=>?_) (fun w1 hz=>?_) Ds w' hnd (fun D hD=>?_) (hx.inv _ _ _ hst'.inv)
  ·have hr:∀r,some D=some r->∃o:Obj,w1.heap[r]?=some o/\Ai o:=fun r e=>by cases e;exact ho
   exact hz.oM hg fun r e=>⟨by cases e;exact hB,hr r e⟩
  ·refine⟨.tuple #[.bool false,.bool false],.lE [okB false,okB false],β',s',.inr ⟨rfl,rfl⟩,hz.XT,?_,hr'⟩;simp only[AV.ok,AV.ir,okB,D.ok];exact⟨_,rfl,_,_,rfl,⟨rfl,rfl⟩,_,_,rfl,⟨rfl,rfl⟩,rfl⟩
  ·obtain⟨h1,h2,h3,h4⟩:=hmk D hD;exact⟨by rw[hx.dom]at h1;exact h1,(hst'.inv.oE D h2 h4).trans h3⟩
 |outgrown=>exact hq.elim
theorem jV.UW{pv:Value}{P:Program}{f:Nat}{mc:gV}{n:Nat}{rs:List rW}(h:jV P f mc n rs){args:List AV}{s:gU}{k:Nat}{R:AV->gU->Prop}
 (hm:ng P k mc (FO pv rs R) (args++List.replicate (n-args.length) .gW) s):oH (XE pv) P f args s k R:=by
 obtain⟨fn,h1,h2,h3,h4⟩:=h.fn;rw[ai]at h2;obtain⟨c,h5,h6⟩:=h2;exact Lo h1 h5 h6 h3 h4 hm
end lY
