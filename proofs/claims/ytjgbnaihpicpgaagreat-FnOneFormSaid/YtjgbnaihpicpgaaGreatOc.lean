/- A part of the proof about FnOneForm (LaShal, LaLend, LaDeep, LaSplit, LaIter, LaThaw, GJ, Grow). -/
import Derived.Test.YtjgbnaihpicpgaaGreatOb
import Derived.KernelRfl
import Derived.Shelf.Spec.SlicesGrow
set_option linter.all false
noncomputable section
namespace ng
open Go
def DL(x y:D):Prop:=∀O w v,D.ok O w x v->D.ok O w y v
def Uo:List D->List D->Prop
 |[],[]=>True
 |x::xs,y::ys=>DL x y/\Uo xs ys
 |_,_=>False
theorem DL.refl(x:D):DL x x:=fun _ _ _ h=>h
theorem DL.forget{e:Nat}{nl:Option Bool}{xs:List D}:DL (.sl e nl xs) (.sl e none xs):=fun _ _ _ h=>by
 simp only[D.ok]at h⊢;obtain⟨a,cap,h1,h2,_,h4⟩:=h;exact⟨a,cap,h1,h2,trivial,h4⟩
theorem DL.nil{e e':Nat}{nl:Option Bool}:DL (.sl e nl []) (.sl e' none []):=fun _ _ _ h=>by
 simp only[D.ok]at h⊢;obtain⟨a,cap,h1,h2,_,h4⟩:=h;exact⟨a,cap,h1,h2,trivial,by simp⟩
theorem Uo.iP{O:Own}{w:World}:∀{xs ys:List D}{vs:List Value},Uo xs ys->D.iP O w xs vs->D.iP O w ys vs
 |[],[],_,_,h=>h
 |_::_,_::_,_,hl,h=>by
  simp only[D.iP]at h⊢;obtain⟨v,r,h1,h2,h3,h4⟩:=h;exact⟨v,r,h1,h2,hl.1 _ _ _ h3,Uo.iP hl.2 h4⟩
 |[],_::_,_,hl,_=>hl.elim
 |_::_,[],_,hl,_=>hl.elim
theorem DL.agg{xs ys:List D}(h:Uo xs ys):DL (.agg xs) (.agg ys):=fun _ _ _ hv=>by
 simp only[D.ok]at hv⊢;obtain⟨vs,h1,h2⟩:=hv;exact⟨vs,h1,h.iP h2⟩
theorem AV.xy{x y:D}(h:DL x y):AV.le (.d x) (.d y):=fun _ _ _ _ hv=>by simp only[AV.ok]at hv⊢;exact h _ _ _ hv
theorem AV.Ra{e id:Nat}{xs:List D}{y:D}(h:DL (.sl e none xs) y):AV.le (.own e id xs) (.d y):=fun _ _ _ _ hv=>by simp only[AV.ok]at hv⊢;exact h _ _ _ hv.1
theorem AV.Ae{xs ys:List AV}(h:iY xs ys):AV.le (.agg xs) (.agg ys):=fun _ _ _ _ hv=>by
 simp only[AV.ok]at hv⊢;obtain⟨vs,h1,h2,h3⟩:=hv;exact⟨vs,h1,h2,h.iP h3⟩
theorem AW{β:iE}{O:Own}{w:World}:∀{ys:List D}{vs:List Value},(∀u∈vs,one u=true)->AV.iP β O w (ys.map .d) vs->D.iP O w ys vs
 |[],_,_,h=>by simpa[AV.iP,D.iP]using h
 |y::ys,vs,h1,h=>by
  simp only[aO,AV.iP,D.iP]at h⊢;obtain⟨v,r,rfl,h2,h3⟩:=h;exact⟨v,r,rfl,h1 v (by simp),by simpa[AV.ok]using h2,AW (fun u hu=>h1 u (by simp[hu])) h3⟩
theorem AV.vP{xs:List AV}{ys:List D}(h:iY xs (ys.map .d)):AV.le (.agg xs) (.d (.agg ys)):=fun _ _ _ _ hv=>by
 simp only[AV.ok,D.ok]at hv⊢;obtain⟨vs,h1,h2,h3⟩:=hv;exact⟨vs,h1,AW h2 (h.iP h3)⟩
theorem AV.yy{xs ys:List AV}(h:iY xs ys):AV.le (.mB xs) (.mB ys):=fun _ _ _ _ hv=>by
 simp only[AV.ok]at hv⊢;obtain⟨vs,h1,h3⟩:=hv;exact⟨vs,h1,h.iP h3⟩
theorem IF{e e':Nat}{nl:Option Bool}:AV.le (.d (.sl e nl [])) (.d (.sl e' none []))<->True:=⟨fun _=>trivial,fun _=>AV.xy DL.nil⟩
theorem FR(x:D):DL x x<->True:=⟨fun _=>trivial,fun _=>DL.refl x⟩
theorem HO{e e':Nat}{nl:Option Bool}:DL (.sl e nl []) (.sl e' none [])<->True:=⟨fun _=>trivial,fun _=>DL.nil⟩
theorem LB{xs:List AV}{ys:List D}(h:iY xs (ys.map .d)):AV.le (.agg xs) (.d (.agg ys))<->True:=⟨fun _=>trivial,fun _=>AV.vP h⟩
theorem N8{xs ys:List AV}(h:iY xs ys):AV.le (.mB xs) (.mB ys)<->True:=⟨fun _=>trivial,fun _=>AV.yy h⟩
def Y8(x y:AV):Prop:=x=y\/((∀d,x≠ .dp d)/\(∀d,y≠ .dp d)/\AV.le x y)\/∃e0 e,x=.d (.sl e0 (some true) [])/\y=.dp (.sl e none [])
def Ax:List AV->List AV->Prop
 |[],[]=>True
 |x::xs,y::ys=>Y8 x y/\Ax xs ys
 |_,_=>False
theorem Ax.refl:∀xs:List AV,Ax xs xs
 |[]=>trivial
 |x::xs=>⟨.inl rfl,Ax.refl xs⟩
theorem Ax.length:∀{xs ys:List AV},Ax xs ys->xs.length=ys.length
 |[],[]=>fun _=>rfl
 |x::xs,y::ys=>fun h=>by simp[Ax.length h.2]
 |[],_::_=>fun h=>h.elim
 |_::_,[]=>fun h=>h.elim
theorem Y8.nx{β:iE}{O:Own}{w:World}{x y:AV}{v:Value}{bs:List Nat}(h:Y8 x y)(hx:NX β O w x v bs):NX β O w y v bs:=by
 rcases h with rfl|⟨h1,h2,h3⟩|⟨e0,e,rfl,rfl⟩
 ·exact hx
 ·exact hx.imp (x':=y) (fun _ _=>rfl) (.inr ⟨h1,h2,h3 _ _ _ _⟩)
 ·obtain⟨h1,h2⟩:=hx;have h1:AV.ok β O w (.d (.sl e0 (some true) [])) v:=h1;simp only[AV.ok,D.ok]at h1;obtain⟨a,cap,h3,h4,⟨rfl,rfl⟩,_⟩:=h1;show NV w (.sl e none []) v bs;simp only[NV];exact⟨none,0,h3,h4,trivial,.inl ⟨rfl,trivial,h2⟩⟩
theorem Ax.nxs{β:iE}{O:Own}{w:World}:∀{xs ys:List AV}{vs:List Value}{bs:List Nat},Ax xs ys->tB β O w xs vs bs->tB β O w ys vs bs
 |[],[]=>fun _ h=>h
 |x::xs,y::ys=>fun hl h=>by
  simp only[tB]at h⊢;obtain⟨v,r,b1,b2,h1,h2,h3,h4⟩:=h;exact⟨v,r,b1,b2,h1,h2,hl.1.nx h3,Ax.nxs hl.2 h4⟩
 |[],_::_=>fun h=>h.elim
 |_::_,[]=>fun h=>h.elim
def PD:List (Lit×D)->List (Lit×D)->Prop
 |[],[]=>True
 |(k,x)::r,(k',y)::r'=>k=k'/\AV.le (.d x) (.d y)/\PD r r'
 |_,_=>False
theorem PD.refl:∀es:List (Lit×D),PD es es
 |[]=>trivial
 |(_,_)::r=>⟨rfl,fun _ _ _ _ h=>h,PD.refl r⟩
theorem PD.get{kl:Lit}:∀{es es':List (Lit×D)},PD es es'->(xW es kl=none/\xW es' kl=none)\/∃x y,xW es kl=some x/\xW es' kl=some y/\AV.le (.d x) (.d y)
 |[],[],_=>.inl ⟨rfl,rfl⟩
 |(k,x)::r,(k',y)::r',h=>by
  obtain⟨rfl,h1,h2⟩:=h;unfold xW;by_cases hk:k=kl
  ·simp only[hk,aC];exact .inr ⟨x,y,rfl,rfl,h1⟩
  ·simp only[hk,aB];exact h2.get
 |[],_::_,h=>h.elim
 |_::_,[],h=>h.elim
theorem PD.ok{O:Own}{w:World}{P:Program}{k b:Nat}{es es':List (Lit×D)}(h:PD es es')(hm:Aw O w P k es b):Aw O w P k es' b:=by
 obtain⟨E,h1,h2⟩:=hm;refine⟨E,h1,fun kl=>?_⟩;have h3:=h2 kl;rcases h.get (kl:=kl)with⟨e1,e2⟩|⟨x,y,e1,e2,e3⟩
 ·rw[e1]at h3;rw[e2];exact h3
 ·rw[e1]at h3;rw[e2];obtain⟨v,k1,k2,k3⟩:=h3;exact⟨v,k1,k2,by have:=e3 (fun _=>.no) O w v (by simpa only[AV.ok]using k3);simpa only[AV.ok]using this⟩
def zo:Ob->Ob->Prop
 |.dead,.dead=>True
 |.obj t cs,.obj t' cs'=>t=t'/\iY cs cs'
 |.tok t e n,.tok t' e' n'=>t=t'/\e=e'/\n=n'
 |.kU t e n cs,.kU t' e' n' cs'=>t=t'/\e=e'/\n=n'/\iY (cs.map .d) (cs'.map .d)
 |.oR t e n cs,.oR t' e' n' cs'=>t=t'/\e=e'/\n=n'/\Ax cs cs'
 |.tK e n cs,.tK e' n' cs'=>e=e'/\n=n'/\Ax cs cs'
 |.mp P k es,.mp P' k' es'=>P=P'/\k=k'/\PD es es'
 |_,_=>False
def lg:iw->iw->Prop
 |[],[]=>True
 |(i,x)::r,(j,y)::r'=>i=j/\zo x y/\lg r r'
 |_,_=>False
theorem lg.sat:∀{s s':iw},lg s s'->∀id,zo (ng.sat s id) (ng.sat s' id)
 |[],[],_,_=>trivial
 |(i,x)::r,(j,y)::r',h,id=>by
  obtain⟨rfl,h1,h2⟩:=h;simp only[ng.sat];split
  ·exact h1
  ·exact h2.sat id
 |[],_::_,h,_=>h.elim
 |_::_,[],h,_=>h.elim
theorem iY.QI{O:Own}{w:World}:∀{xs ys:List D}{vs:List Value},iY (xs.map .d) (ys.map .d)->D.iP O w xs vs->D.iP O w ys vs
 |[],[],_,_,h=>h
 |x::xs,y::ys,_,hl,h=>by
  simp only[D.iP]at h⊢;obtain⟨v,r,h1,h0,h2,h3⟩:=h;refine⟨v,r,h1,h0,?_,iY.QI hl.2 h3⟩;have:=hl.1 (fun _=>.no) O w v (by simpa only[AV.ok]using h2);simpa only[AV.ok]using this
 |[],_::_,_,hl,_=>hl.elim
 |_::_,[],_,hl,_=>hl.elim
theorem iY.length':∀{xs ys:List D},iY (xs.map .d) (ys.map .d)->xs.length=ys.length
 |[],[],_=>rfl
 |x::xs,y::ys,hl=>by simp[iY.length' hl.2]
 |[],_::_,hl=>hl.elim
 |_::_,[],hl=>hl.elim
theorem Inv.told{C:Ctx}{β:iE}{s s':iw}{w:World}(h:Inv C β s w)(hs:∀id,zo (sat s id) (sat s' id)):Inv C β s' w/\C.iz β s'=C.iz β s:=by
 have hown:∀b x,own β s' b x<->own β s b x:=fun b x=>by
  unfold own;refine exists_congr fun id=>?_
  have:=hs id;revert this;cases sat s id<;>cases sat s' id<;>intro h1<;>first|exact h1.elim|exact cX|skip
  ·obtain⟨_,rfl,rfl⟩:=h1;exact cX
  ·obtain⟨_,rfl,rfl,_⟩:=h1;exact cX
  ·obtain⟨_,rfl,rfl,_⟩:=h1;exact cX
  ·obtain⟨rfl,rfl,_⟩:=h1;exact cX
 have hblk:∀id b,ig β s' id b<->ig β s id b:=fun id b=>by
  unfold ig;have:=hs id;revert this;cases sat s id<;>cases sat s' id<;>intro h1<;>first|exact h1.elim|exact cX|skip
  ·obtain⟨_,rfl,rfl⟩:=h1;exact cX
  ·obtain⟨_,rfl,rfl,_⟩:=h1;exact cX
  ·obtain⟨_,rfl,rfl,_⟩:=h1;exact cX
  ·obtain⟨rfl,rfl,_⟩:=h1;exact cX
 have hf:C.iz β s'=C.iz β s:=by funext b o;exact propext (or_congr cX (hown b o))
 refine⟨⟨h.size,h.io,h.keep,h.qN,fun b o ho=>h.qd b o ((hown b o).1 ho),fun id b hb=>h.tq id b ((hblk id b).1 hb),h.pl,h.low,fun id=>?_,
  fun i j b hi hj=>h.inj i j b ((hblk i b).1 hi) ((hblk j b).1 hj)⟩,hf⟩
 rw[hf];have h1:=h.obs id;have h2:=hs id;revert h1 h2;cases sat s id<;>cases sat s' id<;>intro h1 h2<;>first|exact h2.elim|exact h1|skip
 ·obtain⟨rfl,h2⟩:=h2;obtain⟨b,vs,h3,h4,h5,h6⟩:=h1;exact⟨b,vs,h3,h4,h5,h6.imp fun _ h=>h2.iP h⟩
 ·obtain⟨rfl,rfl,rfl⟩:=h2;exact h1
 ·obtain⟨rfl,rfl,rfl,h2⟩:=h2;obtain⟨u,h3,h4,h5⟩:=h1;refine⟨u,h3,h2.length'▸h4,?_⟩;rcases h5 with h5|⟨b,cap,vs,k1,k2,k3,k4,k5,k6,pre,rest,k7,k8⟩
  ·exact .inl h5
  ·exact .inr ⟨b,cap,vs,k1,k2,k3,k4,k5,k6,pre,rest,k7,h2.QI k8⟩
 ·obtain⟨rfl,rfl,rfl,h2⟩:=h2;obtain⟨u,bs,h3,h4,h5,h6⟩:=h1;refine⟨u,bs,h3,h4,h2.length▸h5,?_⟩;rcases h6 with h6|⟨b,cap,vs,k1,k2,k3,k4,k5,k6,k7,k8⟩
  ·exact .inl h6
  ·exact .inr ⟨b,cap,vs,k1,k2,k3,k4,k5,k6,k7,h2.nxs k8⟩
 ·obtain⟨rfl,rfl,h2⟩:=h2;obtain⟨u,bs,h3,h4,h5,h6⟩:=h1;refine⟨u,bs,h3,h4,h2.length▸h5,?_⟩;rcases h6 with h6|⟨b,cap,vs,t,k1,k2,k3,k4,k5,k6,k9,k7,k8⟩
  ·exact .inl h6
  ·exact .inr ⟨b,cap,vs,t,k1,k2,k3,k4,k5,k6,k9,k7,h2.nxs k8⟩
 ·obtain⟨rfl,rfl,h2⟩:=h2;obtain⟨b,h3,h4⟩:=h1;exact⟨b,h3,h2.ok h4⟩
theorem iV.V0{k:Nat}{env env':List AV}{s s':iw}(h:iY env env')(hs:lg s s'):iV k env s env' s':=fun C β a w hC hst=>by
 obtain⟨h1,hf⟩:=hst.inv.told hs.sat;obtain⟨h3,h4⟩:=h.get;exact⟨β,hst.defers,h1,by rw[hst.len,h3],fun i y hy=>by rw[hf];exact let⟨x,hx,hle⟩:=h4 i y hy;hle _ _ _ _ (hst.env i x hx)⟩
def zA(id:Nat):iw->iw
 |[]=>[]
 |(j,x)::r=>if j=id then zA id r else(j,x.kill id)::zA id r
theorem A4(id j:Nat):∀s:iw,sat (zA id s) j=sat (jD id s) j
 |[]=>rfl
 |(i,x)::r=>by
  simp only[zA,jD];by_cases h:i=id
  ·subst h;simp only[aC,sat,A4 i j r];split
   ·rename_i h2;subst h2;rw[qQ];simp
   ·rfl
  ·simp only[h,aB,sat,A4 id j r]
theorem iV.drop{k:Nat}{env:List AV}{s:iw}(id:Nat)(hid:k<=id):iV k env s (AV.jk (iM id) env) (zA id s):=
 (iV.kill id hid).trans (iV.Uc fun j=>(A4 id j s).symm)
theorem ot.mono{P:Program}{k:Nat}{mc:ir}{Q Q':Post}{env:List AV}{s:iw}(h:ot P k mc Q env s)(hq:∀e env s,Q e env s->Q' e env s):ot P k mc Q' env s:=
 fun C hC hf c hc β a w hst=>dD (h C hC hf c hc β a w hst) fun e _ _ ⟨C',hx,β',env',s',h1,h2⟩=>⟨C',hx,β',env',s',h1,hq e env' s' h2⟩
def uh(P:Program)(k:Nat):ir->Post->List AV->iw->Prop
 |.skip,Q,env,s=>Q .normal env s
 |.ie ms,Q,env,s=>wo P k (Q .normal) ms env s
 |.draw ms af,Q,env,s=>P.follows .mixedOrders=true/\vz P k (BY ms af Q) ms [] env s
 |.seq a b,Q,env,s=>uh P k a (yS (fun env s=>uh P k b Q env s) Q) env s
 |.cond o a b,Q,env,s=>match ev env o with
  |.d (.lit (.bool t))=>if t=true then uh P k a Q env s else uh P k b Q env s
  |_=>False
 |.block id a,Q,env,s=>uh P k a (CS id Q) env s
 |.loop x,Q,env,s=>ot P k (.loop x) Q env s
 |.exit id,Q,env,s=>Q (.exit id) env s
 |.ret,Q,env,s=>Q .ret env s
 |.dead,_,_,_=>False
 |.ghost x,Q,env,s=>∃env' s',iV k env s env' s'/\ot P k x Q env' s'
 |.G8 g ps a b,Q,env,s=>ot P k (.G8 g ps a b) Q env s
 |.scope a,Q,env,s=>uh P k a (T1 Q) env s
 |.label,Q,env,s=>Q .normal env s
theorem ia{P:Program}{k:Nat}:∀{mc:ir}{Q:Post}{env:List AV}{s:iw},uh P k mc Q env s->ot P k mc Q env s
 |.skip,_,_,_,h=>U9 h
 |.ie _,_,_,_,h=>aaa h
 |.draw _ _,_,_,_,h=>XJ h.1 h.2
 |.seq a b,Q,env,s,h=>XO (ot.mono (ia (mc:=a) h) fun e env s hq=>by
  cases e with
  |normal=>exact ia (mc:=b) hq
  |_=>exact hq)
 |.cond o a b,Q,env,s,h=>by
  simp only[uh]at h;split at h
  ·rename_i t ht;refine U3 ht ?_;unfold Br;split at h
   ·rename_i hb;rw[ah hb];exact ia (mc:=a) h
   ·rename_i hb;rw[aj hb];exact ia (mc:=b) h
  ·exact h.elim
 |.block id a,_,_,_,h=>Re (ia (mc:=a) h)
 |.loop x,_,_,_,h=>h
 |.exit id,_,_,_,h=>U5 h
 |.ret,_,_,_,h=>XM h
 |.dead,_,_,_,h=>h.elim
 |.ghost x,_,_,_,h=>let⟨_,_,hw,h⟩:=h;Rh hw h
 |.G8 _ _ _ _,_,_,_,h=>h
 |.scope x,_,_,_,h=>Rk (ia (mc:=x) h)
 |.label,_,_,_,h=>Ri h
def kQ(P:Program)(k:Nat)(x:ir)(Q:Post)(env:List AV)(s:iw):Prop:=∃env' s',iV k env s env' s'/\ot P k x Q env' s'
theorem kQ.of{P:Program}{k:Nat}{x:ir}{Q:Post}{env env':List AV}{s s':iw}(hw:iV k env s env' s')(h:uh P k x Q env' s'):kQ P k x Q env s:=⟨_,_,hw,ia h⟩
theorem kQ.mw{P:Program}{k:Nat}{x:ir}{Q:Post}{env env':List AV}{s s':iw}(hw:iV k env s env' s')(h:ot P k x Q env' s'):kQ P k x Q env s:=⟨_,_,hw,h⟩
def Be(P:Program)(k:Nat)(b:Bool)(x y:ir)(Q:Post)(env:List AV)(s:iw):Prop:=if b=true then uh P k x Q env s else uh P k y Q env s
def Jl(P:Program)(k:Nat)(x y:ir)(Q:Post)(env:List AV)(s:iw):AV->Prop
 |.d (.lit (.bool b))=>Be P k b x y Q env s
 |_=>False
section
variable{P:Program}{k:Nat}{Q:Post}{env env':List AV}{s s':iw}{x y mc:ir}{b:Bool}
theorem Pv:uh P k .skip Q env s=Q .normal env s:=(rfl)
theorem Si{ms:List iO}:uh P k (.ie ms) Q env s=wo P k (Q .normal) ms env s:=(rfl)
theorem Pq{ms:List iO}{af:List gT}:uh P k (.draw ms af) Q env s=(P.follows .mixedOrders=true/\vz P k (BY ms af Q) ms [] env s):=(rfl)
theorem Sl:uh P k (.seq x y) Q env s=uh P k x (yS (uh P k y Q) Q) env s:=(rfl)
theorem L6{id:Nat}:uh P k (.block id x) Q env s=uh P k x (CS id Q) env s:=(rfl)
theorem Pu:uh P k (.loop x) Q env s=ot P k (.loop x) Q env s:=(rfl)
theorem Sk{g:Operand}{ps:List Nat}:uh P k (.G8 g ps x y) Q env s=ot P k (.G8 g ps x y) Q env s:=(rfl)
theorem L7:uh P k (.ghost x) Q env s=kQ P k x Q env s:=(rfl)
theorem Pt{id:Nat}:uh P k (.exit id) Q env s=Q (.exit id) env s:=(rfl)
theorem Sj:uh P k .ret Q env s=Q .ret env s:=(rfl)
theorem Pp{o:Operand}:uh P k (.cond o x y) Q env s=Jl P k x y Q env s (ev env o):=by
 simp only[uh];split
 ·rename_i b h;rw[h];rfl
 ·rename_i h;unfold Jl;split
  ·rename_i b h2;exact absurd h2 (h b)
  ·rfl
theorem V9:Be P k true x y Q env s=uh P k x Q env s:=by simp[Be]
theorem V8:Be P k false x y Q env s=uh P k y Q env s:=by simp[Be]
end
section
variable{P:Program}{k k0:Nat}{Q:Post}{K:List AV->iw->Prop}{env env':List AV}{s s':iw}{x y mc:ir}{b b' want:Bool}{m:sH}{d:Option Nat}{ms:List iO}
 {F:List (List Nat×List Nat)->List AV->iw->Prop} {acc acc':List (List Nat×List Nat)} {foot foot':List Nat}
@[congr] theorem V6 (he:env=env')(hs:s=s'):uh P k mc Q env s=uh P k mc Q env' s':=by rw[he,hs]
@[congr] theorem VX (he:env=env')(hs:s=s'):ot P k mc Q env s=ot P k mc Q env' s':=by rw[he,hs]
@[congr] theorem VU (hb:b=b'):Be P k b x y Q env s=Be P k b' x y Q env s:=by rw[hb]
@[congr] theorem VR {R:List AV->iw->Prop}{o o':Out}(h:o=o'):mL P k0 R d o=mL P k0 R d o':=by rw[h]
@[congr] theorem VV (hb:b=b'):zM P k0 K b want m d ms env s=zM P k0 K b' want m d ms env s:=by rw[hb]
@[congr] theorem SM {R:List AV->iw->Prop}{f:Nat}{args args':List AV}(ha:args=args')(he:env=env')(hs:s=s'):
 mu P k0 f args env s d R=mu P k0 f args' env' s' d R:=by rw[ha,he,hs]
@[congr] theorem Ud {o o':rq}(hf:foot=foot')(h:o=o'):mC P k0 F ms acc foot d env s o=mC P k0 F ms acc foot' d env s o':=by rw[h,hf]
@[congr] theorem VW (hb:b=b'):zD P k0 F b want m d ms acc env s=zD P k0 F b' want m d ms acc env s:=by rw[hb]
@[congr] theorem SK {f:Nat}{args args':List AV}(ha:args=args'):og P k0 F ms acc foot d env s f args=og P k0 F ms acc foot d env s f args':=by rw[ha]
@[congr] theorem VY {af:List gT}(ha:acc=acc')(he:env=env')(hs:s=s'):BY ms af Q acc env s=BY ms af Q acc' env' s':=by rw[ha,he,hs]
end
theorem Nv{P:Program}{k0 f:Nat}{args env:List AV}{s:iw}{d:Option Nat}{R:List AV->iw->Prop}{dz:List D}{r:D}(hc:jW P f dz r)
 (ha:iY (args.map fun x=>x.lq (om [])) (dz.map .d)) (hk:R (iZ d env (.d r)) s):mu P k0 f args env s d R:=yX (Gd ha hc hk)
theorem K6{P:Program}{k0 f:Nat}{args env:List AV}{s:iw}{d:Option Nat}{R:List AV->iw->Prop}{dz:List D}{rs:List D}(hc:qV P f dz rs)
 (ha:iY (args.map fun x=>x.lq (om [])) (dz.map .d)) (hk:R (iZ d env (.mB (rs.map .d))) s):mu P k0 f args env s d R:=yX (En ha hc hk)
theorem Nt{P:Program}{k0:Nat}{F:List (List Nat×List Nat)->List AV->iw->Prop}{ms:List iO}{acc:List (List Nat×List Nat)}{foot:List Nat}{d:Option Nat}{env:List AV}{s:iw}
 {f:Nat} {args:List AV} {dz:List D} {r:D} (hc:jW P f dz r) (ha:iY (args.map fun x=>x.lq (om [])) (dz.map .d))
 (hk:vz P k0 F ms ((foot,[])::acc) (iZ d env (.d r)) s):og P k0 F ms acc foot d env s f args:=.inl ⟨_,ha,.inl ⟨r,hc,hk⟩⟩
theorem K5{P:Program}{k0:Nat}{F:List (List Nat×List Nat)->List AV->iw->Prop}{ms:List iO}{acc:List (List Nat×List Nat)}{foot:List Nat}{d:Option Nat}{env:List AV}{s:iw}
 {f:Nat} {args:List AV} {dz rs:List D} (hc:qV P f dz rs) (ha:iY (args.map fun x=>x.lq (om [])) (dz.map .d))
 (hk:vz P k0 F ms ((foot,[])::acc) (iZ d env (.mB (rs.map .d))) s):og P k0 F ms acc foot d env s f args:=.inl ⟨_,ha,.inr ⟨rs,hc,hk⟩⟩
theorem kS.jz{P:Program}{f:Nat}{mc:ir}{n:Nat}{rs:List sW}(h:kS P f mc n rs){args:List D}{r:D}
 (hm:ot P 0 mc (Gq rs fun x _=>AV.le x (.d r)) (args.map .d++List.replicate (n-(args.map AV.d).length) .iG) []):jW P f args r:=
 (h.calls hm).mono fun _ _ hx=>⟨_,hx,rfl⟩
theorem kS.r_{P:Program}{f:Nat}{mc:ir}{n:Nat}{rs:List sW}(h:kS P f mc n rs){args:List D}{ds:List D}
 (hm:ot P 0 mc (Gq rs fun x _=>AV.le x (.mB (ds.map .d))) (args.map .d++List.replicate (n-(args.map AV.d).length) .iG) []):qV P f args ds:=
 (h.calls hm).mono fun _ _ hx=>⟨_,hx,rfl⟩
def tC{σ β:Type}(f:σ->Option (σ⊕β)):Nat->σ->β->Prop
 |0,_,_=>False
 |n+1,s,b=>f s=some (.inr b)\/∃s',f s=some (.inl s')/\tC f n s' b
theorem tC.det{σ β:Type}{f:σ->Option (σ⊕β)}:∀{n m:Nat}{s:σ}{b c:β},tC f n s b->tC f m s c->b=c
 |0,_,_,_,_,h,_=>h.elim
 |_+1,0,_,_,_,_,h=>h.elim
 |n+1,m+1,s,b,c,h1,h2=>by
  rcases h1 with h1|⟨s1,h1,h3⟩<;>rcases h2 with h2|⟨s2,h2,h4⟩<;>rw[h1]at h2<;>cases h2
  ·rfl
  ·exact tC.det h3 h4
open Classical in
def iB{σ β:Type}(f:σ->Option (σ⊕β))(s:σ):Option β:=if h:∃b n,tC f n s b then some (choose h)else none
theorem qz{σ β:Type}{f:σ->Option (σ⊕β)}{s:σ}{b:β}(h:iB f s=some b):∃n,tC f n s b:=by
 unfold iB at h;split at h
 ·rename_i hx;cases h;exact ew hx
 ·cases h
theorem tC.iB{σ β:Type}{f:σ->Option (σ⊕β)}{n:Nat}{s:σ}{b:β}(h:tC f n s b):iB f s=some b:=by
 have hx:∃b n,tC f n s b:=⟨b,n,h⟩;unfold ng.iB;rw[dif_pos hx];obtain⟨m,hm⟩:=ew hx;rw[hm.det h]
theorem iL{σ β:Type}{f:σ->Option (σ⊕β)}{s:σ}{b:β}(h:f s=some (.inr b)):iB f s=some b:=tC.iB (n:=1) (.inl h)
theorem iW{σ β:Type}{f:σ->Option (σ⊕β)}{s s':σ}(h:f s=some (.inl s')):iB f s=iB f s':=by
 cases hx:iB f s' with
 |some b=>obtain⟨n,hn⟩:=qz hx;exact tC.iB (n:=n+1) (.inr ⟨s',h,hn⟩)
 |none=>
  cases hy:iB f s with
  |none=>rfl
  |some b=>
   obtain⟨n,hn⟩:=qz hy;cases n with
   |zero=>exact hn.elim
   |succ n=>
    rcases hn with hn|⟨s2,h2,h3⟩
    ·rw[h]at hn;cases hn
    ·rw[h]at h2;cases h2;rw[h3.iB]at hx;cases hx
theorem xA{P:Program}{k:Nat}{Q:Post}{env:List AV}{s:iw}{x:ir}{σ β:Type}{f:σ->Option (σ⊕β)}{s0:σ}{b:β}(hb:iB f s0=some b)
 (ws:List Nat) (vs:σ->List (Nat×AV)) (S:σ->iw) (hw:iV k env s (pK (rU env ws) (vs s0)) (S s0))
 (round:∀p t,f p=some t->(∀b',t=.inr b'->b'=b)->ot P k x (yS (fun env' s'=>∃p',t=.inl p'/\iV k env' s' (pK (rU env ws) (vs p')) (S p')) Q)
  (pK (rU env ws) (vs p)) (S p)):ot P k (.loop x) Q env s:=by
 obtain⟨n,hn⟩:=qz hb;refine Rj ws (fun p:Nat×σ=>vs p.2) (fun p=>S p.2) (fun p=>tC f p.1 p.2 b) (·.1) (n,s0) hn hw ?_;rintro⟨m,p⟩ hm;cases m with
 |zero=>exact hm.elim
 |succ m=>
  rcases hm with hm|⟨p',hm,hr⟩
  ·refine(round p _ hm fun b' hb'=>by cases hb';rfl).mono fun e env s hq=>?_
   cases e with
   |normal=>obtain⟨p',hp,_⟩:=hq;cases hp
   |_=>exact hq
  ·refine(round p _ hm fun b' hb'=>by cases hb').mono fun e env s hq=>?_
   cases e with
   |normal=>obtain⟨p2,hp,hw⟩:=hq;cases hp;exact⟨(m,p'),hr,cZ m,hw⟩
   |_=>exact hq
theorem wT{α:Type}{p:Prop}[Decidable p]{a:Option α}{r:α}(h:(if p then a else none)=some r):p/\a=some r:=by
 split at h
 ·rename_i hp;exact⟨hp,h⟩
 ·cases h
theorem Dp{α:Type}{c:Bool}{a b:Option α}{r:α}(h:(if c=true then a else b)=some r):(c=true/\a=some r)\/(c=false/\b=some r):=by
 cases c with
 |true=>exact .inl ⟨rfl,by simpa using h⟩
 |false=>exact .inr ⟨rfl,by simpa using h⟩
theorem bind_some{α β:Type}{x:Option α}{K:α->Option β}{r:β}(h:x.bind K=some r):∃a,x=some a/\K a=some r:=aq.1 h
theorem jf{σ β:Type}{x:Option β}{t:σ⊕β}{b:β}(h:x.map Sum.inr=some t)(hb:∀b',t=.inr b'->b'=b):x=some b:=by
 cases x with
 |none=>cases h
 |some c=>cases h;rw[hb c rfl]
open Classical in
def KQ{α β:Type}(xs:List α)(a b:Option β):Option β:=if xs=[]then(if a=b then b else none)else b
theorem F1{α β:Type}{xs:List α}{a b:Option β}{r:β}(h:KQ xs a b=some r):(xs=[]->a=some r)/\b=some r:=by
 unfold KQ at h;split at h
 ·split at h
  ·rename_i h1;exact⟨fun _=>h1.trans h,h⟩
  ·cases h
 ·rename_i hx;exact⟨fun he=>absurd he hx,h⟩
open Classical in
def AL{α:Type}(f:Nat->Option α):Option α:=if h:∃a n,f n=some a then some (choose h)else none
theorem qO{α:Type}{f:Nat->Option α}{a:α}(h:AL f=some a):∃n,f n=some a:=by
 unfold AL at h;split at h
 ·rename_i hx;cases h;exact ew hx
 ·cases h
theorem J1{α:Type}{f:Nat->Option α}{a:α}(n:Nat)(h:f n=some a)(hu:∀m b,f m=some b->b=a):AL f=some a:=by
 have hx:∃a n,f n=some a:=⟨a,n,h⟩;unfold AL;rw[dif_pos hx];obtain⟨m,hm⟩:=ew hx;rw[hu m _ hm]
theorem wj{p q:Prop}(hp:p)(hq:q):p/\q:=⟨hp,hq⟩
def Og(n off:Nat)(ag:Bool)(K:AV->Prop):Ob->Prop
 |.obj _ cs=>off+n<=cs.length/\K (Ku n off cs ag)
 |_=>False
theorem LD{n id off:Nat}{ag:Bool}{s:iw}{K:AV->Prop}:rH n ag (.ptr id off) s K=Og n off ag K (sat s id):=by
 simp only[rH];cases sat s id with
 |obj t cs=>cases ag<;>rfl
 |_=>rfl
attribute [go_sem] Og LD
theorem Ph:AV.qS []=some []:=rfl
theorem L2{x:D}{xs:List AV}:AV.qS (.d x::xs)=(AV.qS xs).map (x::·):=rfl
theorem Pj{e id:Nat}{ys:List D}{xs:List AV}:AV.qS (.own e id ys::xs)=none:=rfl
theorem Pm{id off:Nat}{xs:List AV}:AV.qS (.ptr id off::xs)=none:=rfl
theorem Pg{e id off len:Nat}{xs:List AV}:AV.qS (.pV e id off len::xs)=none:=rfl
theorem Se{f:Nat}{a b xs:List AV}:AV.qS (.fn f a b::xs)=none:=rfl
theorem L4{xs:List AV}:AV.qS (.iG::xs)=none:=rfl
theorem Pe{ys xs:List AV}:AV.qS (.agg ys::xs)=none:=rfl
def mkO(cs:List AV):Option (List D)->AV
 |some ds=>.d (.agg ds)
 |none=>.agg cs
theorem Vc:AV.mk []=.d (.agg []):=rfl
theorem Rs{x:AV}{xs:List AV}:AV.mk (x::xs)=mkO (x::xs) (AV.qS (x::xs)):=by unfold AV.mk;cases AV.qS (x::xs)<;>rfl
attribute [go_sem] Ph L2 Pj Pm Pg Se L4 Pe mkO Vc Rs
theorem M5:M0 (.pointer none)=.d (.lit (.pointer none)):=rfl
theorem M4:M0 (.map none)=.d (.lit (.map none)):=rfl
theorem Qj:M0 .nilFunc=.d (.lit .nilFunc):=rfl
theorem Uz{k:IntKind}{n:Int}:cD (.int k n)=.lit (.int k n):=rfl
theorem Qm{b:Bool}:cD (.bool b)=.lit (.bool b):=rfl
theorem KX{b:ByteArray}:cD (.string b)=.lit (.string b):=rfl
theorem UA:cD (.slice none 0 0)=.sl 0 (some true) []:=rfl
theorem Qo:cD (.pointer none)=.lit (.pointer none):=rfl
theorem Qn:cD (.map none)=.lit (.map none):=rfl
theorem Uy:cD .nilFunc=.lit .nilFunc:=rfl
theorem RE{k:IntKind}{n:Int}:one (.int k n)=true:=rfl
theorem Oz{b:Bool}:one (.bool b)=true:=rfl
theorem I0{b:ByteArray}:one (.string b)=true:=rfl
theorem LQ{a:Option Addr}{n c:Nat}:one (.slice a n c)=true:=rfl
theorem RG{a:Option Addr}:one (.pointer a)=true:=rfl
theorem RF{a:Option Nat}:one (.map a)=true:=rfl
theorem RD:one .nilFunc=true:=rfl
attribute [go_sem] M5 M4 Qj Uz Qm KX UA Qo Qn Uy RE Oz I0 LQ RG RF RD List.all_cons List.all_nil Bool.and_self
abbrev kD(k:IntKind)(n:Int):D:=.lit (.int k n)
abbrev sD(b:ByteArray):D:=.lit (.string b)
def iq{α:Type}(e:Nat)(f:α->D)(xs:List α):D:=.sl e none (xs.map f)
theorem R9{α:Type}{e:Nat}{f:α->D}{xs:List α}:qR (.d (iq e f xs))=some (e,xs.map f):=rfl
theorem Rz{α:Type}{e:Nat}{f:α->D}{xs:List α}:zh (.d (iq e f xs))=none:=rfl
theorem Le{α:Type}{e:Nat}{f:α->D}{xs:List α}:AV.cells (.d (iq e f xs))=some [.d (iq e f xs)]:=rfl
theorem HU{α:Type}{e:Nat}{f:α->D}{xs:List α}:AV.CN (.d (iq e f xs))=none:=rfl
theorem Ip{α:Type}{e:Nat}{f:α->D}{xs:List α}:iy (iq e f xs)=[iq e f xs]:=rfl
theorem getD_map'{α:Type}[Inhabited α]{f:α->D}{l:List α}{i:Nat}{d:D}(h:i<l.length):(l.map f).getD i d=f (l.getD i default):=by simp[List.getD_eq_getElem?_getD,bz,az h]
attribute [go_sem] List.length_map List.length_append Option.map_some Option.map_none Option.bind_some and_self Nat.not_lt_zero Bool.not_true Bool.not_false List.forall_mem_cons List.not_mem_nil false_imp_iff implies_true getD_map' List.map_eq_nil_iff List.append_eq_nil_iff Int.toNat_natCast Ob.tok.injEq true_or or_true false_or or_false IF FR HO LB N8 Uo lg zo zA
attribute [go_sem] Sk L7 Pv Si Pq Sl L6 Pu Pt Sj Pp V9 V8 Jl R9 Rz Le HU Ip om lX
theorem iY.refl:∀xs:List AV,iY xs xs
 |[]=>trivial
 |x::xs=>⟨AV.le_refl x,iY.refl xs⟩
theorem zo.refl:∀o:Ob,zo o o
 |.dead=>trivial
 |.obj _ cs=>⟨rfl,iY.refl cs⟩
 |.tok _ _ _=>⟨rfl,rfl,rfl⟩
 |.kU _ _ _ _=>⟨rfl,rfl,rfl,iY.refl _⟩
 |.oR _ _ _ _=>⟨rfl,rfl,rfl,Ax.refl _⟩
 |.tK _ _ _=>⟨rfl,rfl,Ax.refl _⟩
 |.mp _ _ _=>⟨rfl,rfl,PD.refl _⟩
theorem xb{β:iE}{s s':iw}(hs:∀id,zo (sat s id) (sat s' id))(b o:Nat):own β s' b o<->own β s b o:=by
 unfold own;refine exists_congr fun id=>?_
 have:=hs id;revert this;cases sat s id<;>cases sat s' id<;>intro h1<;>first|exact h1.elim|exact cX|skip
 ·obtain⟨_,rfl,rfl⟩:=h1;exact cX
 ·obtain⟨_,rfl,rfl,_⟩:=h1;exact cX
 ·obtain⟨_,rfl,rfl,_⟩:=h1;exact cX
 ·obtain⟨rfl,rfl,_⟩:=h1;exact cX
theorem A9{β:iE}{s s':iw}(hs:∀id,zo (sat s id) (sat s' id))(id b:Nat):ig β s' id b<->ig β s id b:=by
 unfold ig;have:=hs id;revert this;cases sat s id<;>cases sat s' id<;>intro h1<;>first|exact h1.elim|exact cX|skip
 ·obtain⟨_,rfl,rfl⟩:=h1;exact cX
 ·obtain⟨_,rfl,rfl,_⟩:=h1;exact cX
 ·obtain⟨_,rfl,rfl,_⟩:=h1;exact cX
 ·obtain⟨rfl,rfl,_⟩:=h1;exact cX
theorem Inv.ctx{C:Ctx}{s1:iw}{β:iE}{s:iw}{w:World}(hs:∀id,zo (sat C.s id) (sat s1 id)):Inv C β s w<->Inv {C with s:=s1} β s w:=by
 constructor
 ·intro h;exact⟨h.size,h.io,fun b o v h1 h2=>h.keep b o v h1 fun h3=>h2 ((xb hs b o).2 h3),fun b h1 h2=>h.qN b h1 fun id h3=>h2 id ((A9 hs id b).2 h3),
   fun b o h1=>(h.qd b o h1).imp (fun h2=>(xb hs b o).2 h2) id,fun id b h1=>(h.tq id b h1).imp (fun⟨i,h2⟩=>⟨i,(A9 hs i b).2 h2⟩) (fun x=>x),h.pl,
   fun b o h1=>⟨(h.low b o h1).1,fun h2=>(h.low b o h1).2 ((xb hs b o).1 h2)⟩,h.obs,h.inj⟩
 ·intro h;exact⟨h.size,h.io,fun b o v h1 h2=>h.keep b o v h1 fun h3=>h2 ((xb hs b o).1 h3),fun b h1 h2=>h.qN b h1 fun id h3=>h2 id ((A9 hs id b).1 h3),
   fun b o h1=>(h.qd b o h1).imp (fun h2=>(xb hs b o).1 h2) id,fun id b h1=>(h.tq id b h1).imp (fun⟨i,h2⟩=>⟨i,(A9 hs i b).1 h2⟩) (fun x=>x),h.pl,
   fun b o h1=>⟨(h.low b o h1).1,fun h2=>(h.low b o h1).2 ((xb hs b o).2 h2)⟩,h.obs,h.inj⟩
theorem iH.Uc{P:Program}{f:Nat}{dz:List AV}{s s1:iw}{k:Nat}{R:AV->iw->Prop}(h:iH P f dz s1 k R)(hs:lg s s1):iH P f dz s k R:=fun C vs h1 h2 h3 h4=>by
 subst h1;have hs':=hs.sat;obtain⟨h5,h6⟩:=h3.told hs';refine(h {C with s:=s1} vs rfl h2 ((Inv.ctx hs').1 h5) (by
  show AV.iP C.β (Ctx.iz {C with s:=s1} C.β s1) C.w dz vs.toList;have:Ctx.iz {C with s:=s1} C.β s1=C.iz C.β C.s:=h6;rw[this];exact h4)).mono fun e w' ⟨v,x,β',s',e1,e2,e3,e4⟩=>⟨v,x,β',s',e1,(Inv.ctx hs').2 e2,e3,e4⟩
def wZ:List Nat->iw->iw
 |[],s=>s
 |i::r,s=>wZ r (zA i s)
def Af:List Nat->AV->AV
 |[],x=>x
 |i::r,x=>Af r (x.lq (iM i))
theorem Inv.drop{C:Ctx}{β:iE}{s:iw}{w:World}(h:Inv C β s w)(id:Nat)(hid:C.k<=id):∃β',Inv C β' (zA id s) w/\
 ∀x v,AV.ok β (C.iz β s) w x v->AV.ok β' (C.iz β' (zA id s)) w (x.lq (iM id)) v:=by
 have hs:∀j,zo (sat (jD id s) j) (sat (zA id s) j):=fun j=>by rw[A4];exact .refl _
 obtain⟨h1,h2⟩:=(h.kill id hid).told hs;exact⟨_,h1,fun x v hx=>by rw[h2];exact uQ hx⟩
theorem Inv.zG{C:Ctx}{w:World}:∀{ids:List Nat}{β:iE}{s:iw},Inv C β s w->(∀i∈ids,C.k<=i)->∃β',Inv C β' (wZ ids s) w/\
 ∀x v,AV.ok β (C.iz β s) w x v->AV.ok β' (C.iz β' (wZ ids s)) w (Af ids x) v
 |[],β,_,h,_=>⟨β,h,fun _ _ hx=>hx⟩
 |i::r,_,_,h,hi=>by
  obtain⟨β1,h1,h2⟩:=h.drop i (hi i (by simp));obtain⟨β2,h3,h4⟩:=h1.zG (ids:=r) fun j hj=>hi j (by simp[hj])
  exact⟨β2,h3,fun x v hx=>h4 _ _ (h2 _ _ hx)⟩
theorem iH.cut{P:Program}{f:Nat}{args:List AV}{s:iw}{k:Nat}{y:AV}{t:iw}
 (h:iH P f args s k fun x s'=>∃ids,(∀i∈ids,k<=i)/\AV.le (Af ids x) y/\lg (wZ ids s') t):iH P f args s k fun x s'=>x=y/\s'=t:=fun C vs h1 h2 h3 h4=>
 (h C vs h1 h2 h3 h4).mono fun e w' ⟨v,x,β',s',e1,e2,e3,ids,e4,e5,e6⟩=>by
  subst h2;obtain⟨β2,h5,h6⟩:=e2.zG e4;obtain⟨h7,h8⟩:=h5.told e6.sat;exact⟨v,y,β2,t,e1,h7,by rw[h8];exact e5 _ _ _ _ (h6 _ _ e3),rfl,rfl⟩
theorem kS.kL{P:Program}{f:Nat}{mc:ir}{n:Nat}{rs:List sW}(h:kS P f mc n rs){args:List AV}{s t:iw}{k:Nat}{y:AV}
 (hm:ot P k mc (Gq rs fun x s'=>∃ids,(∀i∈ids,k<=i)/\AV.le (Af ids x) y/\lg (wZ ids s') t) (args++List.replicate (n-args.length) .iG) s):
 iH P f args s k fun x s'=>x=y/\s'=t:=iH.cut (h.calls hm)
theorem E1{P:Program}{k0 f:Nat}{args env:List AV}{s:iw}{d:Option Nat}{R:List AV->iw->Prop}(pr nw:List gJ){dz:List AV}{s1 t:iw}{y:AV}
 (hc:iH P f dz s1 pr.length fun x s'=>x=y/\s'=t) (h1:pr.map (·.1)=List.range pr.length) (h2:((pr++nw).map (·.1)).Nodup) (h3:((pr++nw).map (·.2)).Nodup)
 (h4:∀p∈nw,sat s p.2=.dead/\k0<=p.2) (ha:iY (args.map fun x=>x.lq (om pr)) dz) (hs:lg (mg s pr pr) s1)
 (hk:R (iZ d env (y.lq (lX (pr++nw)))) (qi s t (pr++nw) (pr++nw))):mu P k0 f args env s d R:=
 yX ⟨pr,nw,_,h1,h2,h3,h4,(hc.Uc hs).args ha,fun x s' ⟨e1,e2⟩=>by subst e1;subst e2;exact hk⟩
theorem QC{P:Program}{k0:Nat}{F:List (List Nat×List Nat)->List AV->iw->Prop}{ms:List iO}{acc:List (List Nat×List Nat)}{foot:List Nat}{d:Option Nat}{env:List AV}{s:iw}
 {f:Nat} {args:List AV} (pr nw:List gJ) {dz:List AV} {s1 t:iw} {y:AV}
 (hc:iH P f dz s1 pr.length fun x s'=>x=y/\s'=t) (h1:pr.map (·.1)=List.range pr.length) (h2:((pr++nw).map (·.1)).Nodup) (h3:((pr++nw).map (·.2)).Nodup)
 (h4:∀p∈nw,sat s p.2=.dead/\k0<=p.2) (ha:iY (args.map fun x=>x.lq (om pr)) dz) (hs:lg (mg s pr pr) s1)
 (hk:vz P k0 F ms (((pr++nw).map (·.2)++foot,(GZ t (pr++nw) (pr++nw)).map (·.1))::acc) (iZ d env (y.lq (lX (pr++nw)))) (qk s (GZ t (pr++nw) (pr++nw)))):
 og P k0 F ms acc foot d env s f args:=.inr ⟨pr,nw,y,t,h1,h2,h3,h4,(hc.Uc hs).args ha,hk⟩
attribute [go_sem] GZ mg qi Ob.lq wZ Af
mutual
def AV.nF(id:Nat)(ds:List D):AV->AV
 |.iG=>.iG
 |.d x=>.d x
 |.own e j xs=>if j=id then .d (.sl e none xs)else .own e j xs
 |.ptr j off=>if j=id then .iG else .ptr j off
 |.pV e j off len=>if j=id then(if e=1/\off+len<=ds.length/\(∀d∈ds,(iy d).length=1)then .d (.sl 1 none ((ds.drop off).take len))
  else if off=0/\len=ds.length/\(∀d∈ds,(iy d).length=e)then .d (.sl e none ds)else .iG)else .pV e j off len
 |.pv cs=>.pv cs
 |.agg cs=>.agg (AV.pT id ds cs)
 |.mB cs=>.mB (AV.pT id ds cs)
 |.fn f a b=>.fn f (AV.pT id ds a) (AV.pT id ds b)
 |.mX e j n=>if j=id then(if n=ds.length/\(∀d∈ds,(iy d).length=e)then .d (.sl e none ds)else .iG)else .mX e j n
 |.lN j k off=>if j=id then .iG else .lN j k off
 |.Cq e xs=>.Cq e xs
 |.dp x=>.dp x
 |.mp j=>if j=id then .iG else .mp j
def AV.pT(id:Nat)(ds:List D):List AV->List AV
 |[]=>[]
 |x::xs=>AV.nF id ds x::AV.pT id ds xs
end
theorem BC(id:Nat)(ds:List D):∀xs:List AV,AV.pT id ds xs=xs.map (AV.nF id ds)
 |[]=>rfl
 |x::xs=>by simp only[AV.pT,aO,BC id ds xs]
theorem Hy{id:Nat}{ds:List D}{β β':iE}{O O':Own}{w w':World}{x:AV}{v:Value}(h:AV.ok β O w x v->AV.ok β' O' w' (x.nF id ds) v):
 ((∃d,x=.dp d/\x.nF id ds=.dp d)\/(∀d,x≠ .dp d)/\(∀d,x.nF id ds≠ .dp d)/\(AV.ok β O w x v->AV.ok β' O' w' (x.nF id ds) v)):=by
 cases x with
 |dp d=>exact .inl ⟨d,rfl,rfl⟩
 |own e j xs=>refine .inr ⟨fun d h=>(nomatch h),fun d h=>?_,h⟩;simp only[AV.nF]at h;split at h<;>exact nomatch h
 |ptr j off=>refine .inr ⟨fun d h=>(nomatch h),fun d h=>?_,h⟩;simp only[AV.nF]at h;split at h<;>exact nomatch h
 |pV e j off len=>refine .inr ⟨fun d h=>(nomatch h),fun d h=>?_,h⟩;simp only[AV.nF]at h;(repeat' split at h)<;>exact nomatch h
 |mX e j k=>refine .inr ⟨fun d h=>(nomatch h),fun d h=>?_,h⟩;simp only[AV.nF]at h;(repeat' split at h)<;>exact nomatch h
 |lN j k off=>refine .inr ⟨fun d h=>(nomatch h),fun d h=>?_,h⟩;simp only[AV.nF]at h;split at h<;>exact nomatch h
 |mp j=>refine .inr ⟨fun d h=>(nomatch h),fun d h=>?_,h⟩;simp only[AV.nF]at h;split at h<;>exact nomatch h
 |_=>exact .inr ⟨fun d h=>(nomatch h),fun d h=>(nomatch h),h⟩
def Ob.nF(id:Nat)(ds:List D):Ob->Ob
 |.obj t cs=>.obj t (AV.pT id ds cs)
 |.oR t e n cs=>.oR t e n (AV.pT id ds cs)
 |.tK e n cs=>.tK e n (AV.pT id ds cs)
 |x=>x
def tr(id:Nat)(ds:List D):iw->iw
 |[]=>[]
 |(j,x)::r=>if j=id then tr id ds r else(j,x.nF id ds)::tr id ds r
theorem yN(id:Nat)(ds:List D)(j:Nat):∀s:iw,sat (tr id ds s) j=if j=id then .dead else(sat s j).nF id ds
 |[]=>by simp[tr,sat,Ob.nF]
 |(i,x)::r=>by
  simp only[tr];by_cases h:i=id
  ·subst h;simp only[aC,sat,yN i ds j r];split
   ·rfl
   ·rfl
  ·simp only[h,aB,sat,yN id ds j r];by_cases h2:j=i
   ·subst h2;simp[h]
   ·simp[h2]
theorem AY{β:iE}{s:iw}{id b o:Nat}{ds:List D}(h:own (iA β id .no) (tr id ds s) b o):∃i,i≠id/\tj β s i b o:=by
 obtain⟨i,h⟩:=h;rw[yN]at h;by_cases hi:i=id
 ·subst hi;simp at h
 ·refine⟨i,hi,?_⟩;unfold tj;simp only[hi,aB]at h;cases hs:sat s i with
  |dead=>rw[hs]at h;exact h
  |obj t cs=>rw[hs]at h;simpa[Ob.nF,iA,hi]using h
  |tok t e n=>rw[hs]at h;simpa[Ob.nF,iA,hi]using h
  |kU t e n cs=>rw[hs]at h;simpa[Ob.nF,iA,hi]using h
  |oR t e n cs=>rw[hs]at h;simpa[Ob.nF,iA,hi]using h
  |tK e n cs=>rw[hs]at h;simpa[Ob.nF,iA,hi]using h
  |mp P k es=>rw[hs]at h;first|exact h.elim|simpa[Ob.nF,iA,hi]using h
theorem yd{β:iE}{s:iw}{id i b:Nat}{ds:List D}(h:ig (iA β id .no) (tr id ds s) i b):i≠id/\ig β s i b:=by
 unfold ig at h⊢;rw[yN]at h;by_cases hi:i=id
 ·subst hi;simp at h
 ·refine⟨hi,?_⟩;simp only[hi,aB]at h;cases hs:sat s i with
  |dead=>rw[hs]at h;exact h
  |obj t cs=>rw[hs]at h;simpa[Ob.nF,iA,hi]using h
  |tok t e n=>rw[hs]at h;simpa[Ob.nF,iA,hi]using h
  |kU t e n cs=>rw[hs]at h;simpa[Ob.nF,iA,hi]using h
  |oR t e n cs=>rw[hs]at h;simpa[Ob.nF,iA,hi]using h
  |tK e n cs=>rw[hs]at h;simpa[Ob.nF,iA,hi]using h
  |mp P k es=>rw[hs]at h;first|exact h.elim|simpa[Ob.nF,iA,hi]using h
theorem OT{O:Own}{w:World}{b:Nat}:∀{ds:List D}{vs:List Value}{o:Nat},(∀d∈ds,iy d=[d])->D.iP O w ds vs->kG O w b o vs->D.row O w b o 1 ds
 |[],_,_,_,_,_=>by simp[D.row]
 |d::ds,vs,o,hd,h,hc=>by
  simp only[D.iP]at h;obtain⟨v,r,rfl,h1,h2,h3⟩:=h;rw[D.mQ];refine⟨⟨[v],rfl,fun j u hj=>?_,?_⟩,OT (fun x hx=>hd x (by simp[hx])) h3 fun j u hj=>?_⟩
  ·cases j with
   |zero=>simp at hj;subst hj;exact hc 0 v rfl
   |succ j=>simp at hj
  ·have:=hd d (by simp);cases d with
   |agg cs=>
    simp only[iy]at this;simp only[D.HL];have hx:=bS List.length this;cases cs with
    |nil=>simp at hx
    |cons c cs=>
     simp only[bV]at this;obtain⟨e1,_⟩:=this;have:=bS SizeOf.sizeOf e1;simp at this;omega
   |_=>exact⟨v,rfl,h2⟩
  ·have:=hc (j+1) u hj;rw[show o+1+j=o+(j+1) by omega];exact this
section
variable{C:Ctx}{β:iE}{s:iw}{w:World}{id t:Nat}{ds:List D}
theorem Dd{b o:Nat}(h:C.iz (iA β id .no) (tr id ds s) b o):C.iz β s b o:=h.imp (fun x=>x) fun h=>let⟨i,_,h⟩:=AY h;⟨i,h⟩
theorem yq{x:D}{v:Value}(h:D.ok (C.iz β s) w x v):D.ok (C.iz (iA β id .no) (tr id ds s)) w x v:=D.jY (fun _ _ _ hc hn=>⟨hc,fun h=>hn (Dd h)⟩) _ _ h
theorem wK{x:List D}{v:List Value}(h:D.iP (C.iz β s) w x v):D.iP (C.iz (iA β id .no) (tr id ds s)) w x v:=D.jL (fun _ _ _ hc hn=>⟨hc,fun h=>hn (Dd h)⟩) _ _ h
def BS(s:iw)(id:Nat)(ds:List D):Prop:=
 (∃t,sat s id=.obj t (ds.map .d)/\∀d∈ds,iy d=[d])\/(∃t e,sat s id=.kU t e ds.length (ds.flatMap iy)/\∀d∈ds,(iy d).length=e)\/
  ∃t e,sat s id=.obj t ((ds.flatMap iy).map .d)/\(∀d∈ds,(iy d).length=e)/\e≠1/\ds≠[]
theorem QS(h:Inv C β s w)(ho:sat s id=.obj t (ds.map .d))(hd:∀d∈ds,iy d=[d]){off len:Nat}(hl:off+len<=ds.length){v:Value}
 (hv:AV.ok β (C.iz β s) w (.pV 1 id off len) v):D.ok (C.iz (iA β id .no) (tr id ds s)) w (.sl 1 none ((ds.drop off).take len)) v:=by
 simp only[AV.ok]at hv;obtain⟨b,cap,h1,⟨h2,h3⟩,rfl⟩:=hv;have hob:=h.obs id;rw[ho]at hob;obtain⟨b',vs,h4,h5,h6,h7⟩:=hob;rw[h1]at h4;cases h4;have hlen:((ds.drop off).take len).length=len:=by simp;omega
 obtain⟨pre,rest,hvs,h7⟩:=h7;have h6':∀u∈pre,one u=true:=fun u hu=>h6 u (by rw[hvs];exact aZ _ hu)
 have hoks:=AW h6' h7;have hcells:kG (C.iz (iA β id .no) (tr id ds s)) w b 0 pre:=fun j u hj=>by
  have hju:vs[j]?=some u:=by
   have:vs.toList[j]?=some u:=by rw[hvs,aW (aN.1 hj).1];exact hj
   simpa using this
  refine⟨?_,?_,h6' u (bO hj)⟩
  ·simp[World.cell?,h5,hju]
  ·rintro(hO|hO)
   ·have:=h.low b (0+j) hO;rcases h.qd b (0+j) ⟨id,by rw[ho];exact h1⟩with h8|h8
    ·exact this.2 h8
    ·omega
   ·obtain⟨i,hi,hO⟩:=AY hO;exact hi (h.inj i id b hO.block (by unfold ig;rw[ho];exact h1))
 simp only[D.ok];refine⟨some ⟨b,off,none⟩,cap,by rw[hlen],by rw[hlen];exact⟨h2,h3⟩,trivial,.inr ⟨b,off,rfl,?_⟩⟩;have hall:=wK (id:=id) (ds:=ds) hoks;rw[D.jI]at hall;refine OT (vs:=(pre.drop off).take len) (fun d hd'=>hd d (cN (cu hd'))) ?_ fun j u hj=>?_
 ·rw[D.jI];refine⟨by simp[<-hall.1],fun i x u hx hu=>?_⟩;rw[cj]at hx hu;split at hx
  ·rename_i hi;rw[ah hi]at hu;rw[cy]at hx hu;exact hall.2 _ _ _ hx hu
  ·cases hx
 ·rw[cj]at hj;split at hj
  ·rw[cy]at hj;have:=hcells (off+j) u hj;rwa [show 0+(off+j)=off+j by omega]at this
  ·cases hj
theorem C8{O:Own}{w:World}:∀{xs ys:List D}{vs:List Value},D.iP O w (xs++ys) vs->∃us r,vs=us++r/\D.iP O w xs us/\D.iP O w ys r
 |[],ys,vs,h=>⟨[],vs,rfl,by simp[D.iP],h⟩
 |x::xs,ys,vs,h=>by
  simp only[bC,D.iP]at h;obtain⟨v,r,rfl,h0,h1,h2⟩:=h;obtain⟨us,r',rfl,h3,h4⟩:=C8 h2;exact⟨v::us,r',rfl,by simp only[D.iP];exact⟨v,us,rfl,h0,h1,h3⟩,h4⟩
theorem Dc{O:Own}{w:World}{b e:Nat}:∀{ds:List D}{vs:List Value}{o:Nat},(∀d∈ds,(iy d).length=e)->D.iP O w (ds.flatMap iy) vs->kG O w b o vs->D.row O w b o e ds
 |[],_,_,_,_,_=>by simp[D.row]
 |d::ds,vs,o,hd,h,hc=>by
  rw[cU]at h;obtain⟨us,r,rfl,h1,h2⟩:=C8 h;have hl:=D.iQ h1;rw[hd d (by simp)]at hl;rw[D.mQ];refine⟨⟨us,hl,fun j u hj=>?_,Kg h1⟩,Dc (fun x hx=>hd x (by simp[hx])) h2 fun j u hj=>?_⟩
  ·exact hc j u (by rw[aW (aN.1 hj).1];exact hj)
  ·have:=hc (e+j) u (by rw[bK h_,hl,dI];exact hj);rwa [<-c_]at this
theorem QO{e:Nat}(h:Inv C β s w)(ho:sat s id=.kU t e ds.length (ds.flatMap iy)){e':Nat}(hd:∀d∈ds,(iy d).length=e'){v:Value}
 (hv:AV.ok β (C.iz β s) w (.mX e' id ds.length) v):D.ok (C.iz (iA β id .no) (tr id ds s)) w (.sl e' none ds) v:=by
 simp only[AV.ok]at hv;obtain⟨u,m,h1,h2,h3,_⟩:=hv;have hob:=h.obs id;rw[ho]at hob;obtain⟨u',h4,_,h6⟩:=hob;rw[h4]at h1;obtain⟨rfl,rfl⟩:=h1;have:=h3 rfl;subst this;simp only[D.ok];rcases h6 with⟨rfl,h7⟩|⟨b,cap,vs,rfl,k2,k3,k4,k5,k6,pre,rest,k7,k8⟩
 ·have:ds=[]:=bG.1 h7;subst this;exact⟨none,0,rfl,⟨aA _,h_⟩,trivial,.inl rfl⟩
 ·refine⟨_,cap,rfl,⟨k4,k5⟩,trivial,.inr ⟨b,0,rfl,Dc hd (wK k8) fun j u hj=>?_⟩⟩;have hju:vs[j]?=some u:=by
   have:vs.toList[j]?=some u:=by rw[k7,aW (aN.1 hj).1];exact hj
   simpa using this
  refine⟨by simp[World.cell?,k2,hju],?_,k6 u (by rw[k7];exact aZ _ (bO hj))⟩;have hbl:ig β s id b:=by unfold ig;rw[ho];exact⟨cap,h4⟩
  rintro(hO|hO)
  ·have:=h.low b (0+j) hO;rcases h.qd b (0+j) ⟨id,by rw[ho];exact⟨cap,h4⟩⟩with h8|h8
   ·exact this.2 h8
   ·omega
  ·obtain⟨i,hi,hO⟩:=AY hO;exact hi (h.inj i id b hO.block hbl)
theorem NO{e:Nat}(h:Inv C β s w)(ho:BS s id ds)(hd:∀d∈ds,(iy d).length=e)(hn:¬(e=1/\0+ds.length<=ds.length/\∀d∈ds,(iy d).length=1)){v:Value}
 (hv:AV.ok β (C.iz β s) w (.pV e id 0 ds.length) v):D.ok (C.iz (iA β id .no) (tr id ds s)) w (.sl e none ds) v:=by
 simp only[AV.ok]at hv;obtain⟨b,cap,h1,⟨h2,h3⟩,rfl⟩:=hv;simp only[D.ok];by_cases hds:ds=[]
 ·subst hds;exact⟨_,cap,rfl,⟨h2,h3⟩,trivial,.inl rfl⟩
 obtain⟨d0,hd0⟩:=List.exists_mem_of_ne_nil _ hds;rcases ho with⟨t,ho,hd1⟩|⟨t,e',ho,hd1⟩|⟨t,e',ho,hd1,he1,hne⟩
 ·exfalso;have e1:=hd d0 hd0;rw[hd1 d0 hd0]at e1;exact hn ⟨e1.symm,h_,fun d hd=>by rw[hd1 d hd];rfl⟩
 ·have hob:=h.obs id;rw[ho]at hob;obtain⟨u,h4,_⟩:=hob;rw[h1]at h4;cases h4
 ·have hob:=h.obs id;rw[ho]at hob;obtain⟨b',vs,h4,h5,h6,h7⟩:=hob;rw[h1]at h4;cases h4;obtain⟨pre,rest,hvs,h7⟩:=h7;have h6':∀u∈pre,one u=true:=fun u hu=>h6 u (by rw[hvs];exact aZ _ hu)
  have hoks:=AW h6' h7;refine⟨_,cap,rfl,⟨h2,h3⟩,trivial,.inr ⟨b,0,rfl,Dc hd (wK hoks) fun j u hj=>?_⟩⟩;have hju:vs[j]?=some u:=by
   have:vs.toList[j]?=some u:=by rw[hvs,aW (aN.1 hj).1];exact hj
   simpa using this
  refine⟨by simp[World.cell?,h5,hju],?_,h6' u (bO hj)⟩;rintro(hO|hO)
  ·have:=h.low b (0+j) hO;rcases h.qd b (0+j) ⟨id,by rw[ho];exact h1⟩with h8|h8
   ·exact this.2 h8
   ·omega
  ·obtain⟨i,hi,hO⟩:=AY hO;exact hi (h.inj i id b hO.block (by unfold ig;rw[ho];exact h1))
mutual
theorem BA(h:Inv C β s w)(ho:BS s id ds):∀(x:AV)(v:Value),AV.ok β (C.iz β s) w x v->
 AV.ok (iA β id .no) (C.iz (iA β id .no) (tr id ds s)) w (x.nF id ds) v
 |.iG,v=>fun _=>by simp[AV.nF,AV.ok]
 |.d x,v=>fun hv=>by simp only[AV.nF,AV.ok]at hv⊢;exact yq hv
 |.own e j xs,v=>fun hv=>by
  simp only[AV.nF];split
  ·simp only[AV.ok]at hv⊢;exact yq hv.1
  ·rename_i hj;simp only[AV.ok]at hv⊢;obtain⟨h1,u,n,h2,h3⟩:=hv;exact⟨yq h1,u,n,by simpa[iA,hj]using h2,h3⟩
 |.ptr j off,v=>fun hv=>by
  simp only[AV.nF];split
  ·simp[AV.ok]
  ·rename_i hj;simp only[AV.ok]at hv⊢;obtain⟨b,h1,h2⟩:=hv;exact⟨b,by simpa[iA,hj]using h1,h2⟩
 |.pV e j off len,v=>fun hv=>by
  simp only[AV.nF];split
  ·rename_i hj;subst hj;split
   ·rename_i hc;obtain⟨rfl,hc,hc1⟩:=hc;simp only[AV.ok];rcases ho with⟨t,ho,hd⟩|⟨t,e,ho,hd⟩|⟨t,e,ho,hd,he1,hne⟩
    ·exact QS h ho hd hc hv
    ·have hob:=h.obs j;rw[ho]at hob;obtain⟨u,h4,_⟩:=hob;simp only[AV.ok]at hv;obtain⟨b,cap,h1,_⟩:=hv;rw[h1]at h4;cases h4
    ·obtain⟨d,hd'⟩:=List.exists_mem_of_ne_nil _ hne;exact absurd ((hd d hd').symm.trans (hc1 d hd')) he1
   ·rename_i hc1;split
    ·rename_i hc;obtain⟨rfl,rfl,hc⟩:=hc;simp only[AV.ok];exact NO h ho hc hc1 hv
    ·simp[AV.ok]
  ·rename_i hj;simp only[AV.ok]at hv⊢;obtain⟨b,cap,h1,h2⟩:=hv;exact⟨b,cap,by simpa[iA,hj]using h1,h2⟩
 |.pv cs,v=>fun hv=>by
  simp only[AV.nF,AV.ok]at hv⊢;obtain⟨b,o,vs,h1,h2,h3⟩:=hv;exact⟨b,o,vs,h1,h2.mono (fun _ _ _ hc hn=>⟨hc,fun h=>hn (Dd h)⟩),wK h3⟩
 |.agg cs,v=>fun hv=>by
  simp only[AV.nF,AV.ok]at hv⊢;obtain⟨vs,h1,h2,h3⟩:=hv;exact⟨vs,h1,h2,xp h ho cs _ h3⟩
 |.mB cs,v=>fun hv=>by
  simp only[AV.nF,AV.ok]at hv⊢;obtain⟨vs,h1,h3⟩:=hv;exact⟨vs,h1,xp h ho cs _ h3⟩
 |.fn f a b,v=>fun hv=>by
  simp only[AV.nF,AV.ok]at hv⊢;obtain⟨fs,cs,h1,h2,h3⟩:=hv;exact⟨fs,cs,h1,xp h ho a _ h2,xp h ho b _ h3⟩
 |.mX e j n,v=>fun hv=>by
  simp only[AV.nF];split
  ·rename_i hj;subst hj;split
   ·rename_i hc;obtain⟨rfl,hc⟩:=hc;simp only[AV.ok];rcases ho with⟨t,ho,hd⟩|⟨t,e,ho,hd⟩|⟨t,e,ho,hd,he1,hne⟩
    ·have hob:=h.obs j;rw[ho]at hob;obtain⟨b,vs,h4,_⟩:=hob;simp only[AV.ok]at hv;obtain⟨u,m,h1,_⟩:=hv;rw[h4]at h1;exact h1.elim
    ·exact QO h ho hc hv
    ·have hob:=h.obs j;rw[ho]at hob;obtain⟨b,vs,h4,_⟩:=hob;simp only[AV.ok]at hv;obtain⟨u,m,h1,_⟩:=hv;rw[h4]at h1;exact h1.elim
   ·simp[AV.ok]
  ·rename_i hj;simp only[AV.ok]at hv⊢;obtain⟨u,m,h1,h2⟩:=hv;exact⟨u,m,by simpa[iA,hj]using h1,h2⟩
 |.lN j k off,v=>fun hv=>by
  simp only[AV.nF];split
  ·simp[AV.ok]
  ·rename_i hj;simp only[AV.ok]at hv⊢;obtain⟨u,m,b,off',h1,h2⟩:=hv;exact⟨u,m,b,off',by simpa[iA,hj]using h1,h2⟩
 |.Cq e xs,v=>fun hv=>by
  simp only[AV.nF,AV.ok]at hv⊢;obtain⟨a,h1,h2⟩:=hv;exact⟨a,h1,yq h2⟩
 |.dp x,v=>fun _=>by simp[AV.nF,AV.ok]
 |.mp j,v=>fun hv=>by
  simp only[AV.nF];split
  ·simp[AV.ok]
  ·rename_i hj;simp only[AV.ok]at hv⊢;obtain⟨b,h1,h2⟩:=hv;exact⟨b,by simpa[iA,hj]using h1,h2⟩
theorem xp(h:Inv C β s w)(ho:BS s id ds):∀(xs:List AV)(vs:List Value),AV.iP β (C.iz β s) w xs vs->
 AV.iP (iA β id .no) (C.iz (iA β id .no) (tr id ds s)) w (AV.pT id ds xs) vs
 |[],vs=>fun hv=>by simpa[AV.pT,AV.iP]using hv
 |x::xs,vs=>fun hv=>by
  simp only[AV.pT,AV.iP]at hv⊢;obtain⟨v,r,h1,h2,h3⟩:=hv;exact⟨v,r,h1,BA h ho x v h2,xp h ho xs r h3⟩
end
theorem Inv.nF(h:Inv C β s w)(hid:C.k<=id)(ho:BS s id ds):Inv C (iA β id .no) (tr id ds s) w where
 size:=h.size
 io:=h.io
 keep:=h.keep
 qN:=h.qN
 qd:=fun b o ho=>let⟨i,_,h1⟩:=AY ho;h.qd b o ⟨i,h1⟩
 tq:=fun i b hb=>h.tq i b (yd hb).2
 pl:=fun i hi=>by
  have:i≠id:=by omega
  simpa[iA,this]using h.pl i hi
 low:=h.low
 obs:=fun i=>by
  rw[yN];by_cases hi:i=id
  ·subst hi;simp[vB,iA]
  ·simp only[hi,aB];have hob:=h.obs i;cases hs:sat s i with
   |dead=>rw[hs]at hob;simpa[Ob.nF,vB,iA,hi]using hob
   |obj t' cs=>
    rw[hs]at hob;obtain⟨b,vs,h1,h2,h0,h3⟩:=hob;exact⟨b,vs,by simpa[iA,hi]using h1,h2,h0,h3.imp fun _ hx=>xp h ho _ _ hx⟩
   |tok t' e n=>
    rw[hs]at hob;obtain⟨u,h1,h2⟩:=hob;exact⟨u,by simpa[iA,hi]using h1,h2⟩
   |kU t' e n cs=>
    rw[hs]at hob;obtain⟨u,h1,hl,h2⟩:=hob;refine⟨u,by simpa[iA,hi]using h1,hl,?_⟩;rcases h2 with h2|⟨b,cap,vs,k1,k2,k3,k4,k5,k6,pre,rest,k7,k8⟩
    ·exact .inl h2
    ·exact .inr ⟨b,cap,vs,k1,k2,k3,k4,k5,k6,pre,rest,k7,wK k8⟩
   |oR t' e n cs=>
    rw[hs]at hob;obtain⟨u,bs,h1,h0,h2⟩:=hob;refine⟨u,bs,by simpa[iA,hi]using h1,h0,?_⟩;rw[BC];exact h2.imp (f:=AV.nF id ds) (β:=β) (O:=C.iz β s) (w:=w) (fun x v=>Hy (BA h ho x v)) (fun _ _=>rfl) (fun _ _ _=>rfl)
   |tK e n cs=>
    rw[hs]at hob;obtain⟨u,bs,h1,h0,h2⟩:=hob;refine⟨u,bs,by simpa[iA,hi]using h1,h0,?_⟩;rw[BC];exact h2.imp (f:=AV.nF id ds) (β:=β) (O:=C.iz β s) (w:=w) (fun x v=>Hy (BA h ho x v)) (fun _ _=>rfl) (fun _ _ _ _=>rfl)
   |mp P k es=>
    rw[hs]at hob;obtain⟨b,h1,h2⟩:=hob;exact⟨b,by simpa[iA,hi]using h1,h2.imp rfl fun x v hx=>yq hx⟩
 inj:=fun i j b hi hj=>h.inj i j b (yd hi).2 (yd hj).2
end
theorem vZ(id:Nat)(ds:List D):∀(xs:List AV)(i:Nat),(AV.pT id ds xs)[i]?=(xs[i]?).map (AV.nF id ds)
 |[],_=>by simp[AV.pT]
 |x::xs,0=>by simp[AV.pT]
 |x::xs,i+1=>by simp[AV.pT,vZ id ds xs i]
theorem yt(id:Nat)(ds:List D):∀(xs:List AV),(AV.pT id ds xs).length=xs.length
 |[]=>rfl
 |x::xs=>by simp[AV.pT,yt id ds xs]
theorem iV.QL{k:Nat}{env:List AV}{s:iw}(id:Nat){ds:List D}(hid:k<=id)(ho:BS s id ds):
 iV k env s (AV.pT id ds env) (tr id ds s):=fun C β a w hC hst=>by
 subst hC;refine⟨iA β id .no,hst.defers,hst.inv.nF hid ho,by rw[yt,hst.len],fun i x hx=>?_⟩;rw[vZ]at hx;cases hx2:env[i]? with
 |none=>rw[hx2]at hx;cases hx
 |some y=>rw[hx2]at hx;cases hx;exact BA hst.inv ho y _ (hst.env i y hx2)
def aD{α:Type}(f:α->D)(x:α):AV:=.d (f x)
theorem IU{α:Type}(f:α->D)(xs:List α):xs.map (aD f)=(xs.map f).map .d:=by rw[eS];rfl
theorem QU{α:Type}[Inhabited α]{f:α->D}{xs:List α}{i:Nat}(h:i<xs.length):(xs.map (aD f)).getD i .iG=.d (f (xs.getD i default)):=by simp[List.getD_eq_getElem?_getD,bz,az h,aD]
theorem O2{α:Type}{f:α->D}{xs:List α}{i:Nat}{v:α}(h:i<xs.length):List.take i (xs.map (aD f))++(AV.d (f v)::List.drop (i+1) (xs.map (aD f)))=(xs.set i v).map (aD f):=by
 rw[List.map_set,ef,ah (by simpa using h)];rfl
theorem si{α:Type}{f:α->D}{x:AV}{v:α}(h:AV.le x (.d (f v))):∀n,iY (List.replicate n [x]).flatten ((List.replicate n v).map (aD f))
 |0=>trivial
 |n+1=>by simp only[cV,ct,aO,bC,bA];exact⟨h,si h n⟩
theorem ES{xs:List AV}:iY xs xs<->True:=⟨fun _=>trivial,fun _=>.refl _⟩
theorem Dg{id:Nat}{ds:List D}:AV.nF id ds .iG=.iG:=by simp only[AV.nF]
theorem NN{id:Nat}{ds:List D}{x:D}:AV.nF id ds (.d x)=.d x:=by simp only[AV.nF]
theorem E8{id e j:Nat}{ds xs:List D}:AV.nF id ds (.own e j xs)=if j=id then .d (.sl e none xs)else .own e j xs:=by simp only[AV.nF]
theorem E9{id j off:Nat}{ds:List D}:AV.nF id ds (.ptr j off)=if j=id then .iG else .ptr j off:=by simp only[AV.nF]
theorem Bz{id e j off len:Nat}{ds:List D}(h:¬j=id):AV.nF id ds (.pV e j off len)=.pV e j off len:=by simp only[AV.nF,aj h]
class xd {α:Type} (f:α->D) (e:outParam Nat):Prop where
 len:∀x,(iy (f x)).length=e
theorem AG{α:Type}{id n:Nat}{f:α->D}[xd f 1]{xs:List α}(h:xs.length=n):AV.nF id (xs.map f) (.pV 1 id 0 n)=.d (iq 1 f xs):=by
 simp only[AV.nF,aC,bF];rw[ah ⟨trivial,by simp[h],by rintro d hd;obtain⟨x,_,rfl⟩:=bq.1 hd;exact xd.len x⟩,cg (by simp[h])];rfl
theorem Gu{α:Type}{id e n:Nat}{f:α->D}[xd f e]{xs:List α}(h:n=xs.length):AV.nF id (xs.map f) (.pV e id 0 n)=.d (iq e f xs):=by
 subst h;by_cases he:e=1
 ·subst he;exact AG rfl
 ·simp only[AV.nF,aC];rw[aj fun h=>he h.1,ah ⟨trivial,by simp,by rintro d hd;obtain⟨x,_,rfl⟩:=bq.1 hd;exact xd.len x⟩];rfl
theorem Iv{id:Nat}{ds cs:List D}:AV.nF id ds (.pv cs)=.pv cs:=by simp only[AV.nF]
theorem E7{id:Nat}{ds:List D}{cs:List AV}:AV.nF id ds (.agg cs)=.agg (AV.pT id ds cs):=by simp only[AV.nF]
theorem E_{id:Nat}{ds:List D}{cs:List AV}:AV.nF id ds (.mB cs)=.mB (AV.pT id ds cs):=by simp only[AV.nF]
theorem Iu{id f:Nat}{ds:List D}{a b:List AV}:AV.nF id ds (.fn f a b)=.fn f (AV.pT id ds a) (AV.pT id ds b):=by simp only[AV.nF]
theorem Dh{id:Nat}{ds:List D}:AV.pT id ds []=[]:=by simp only[AV.pT]
theorem BB{id:Nat}{ds:List D}{x:AV}{xs:List AV}:AV.pT id ds (x::xs)=AV.nF id ds x::AV.pT id ds xs:=by simp only[AV.pT]
theorem JU{α:Type}{id:Nat}{ds:List D}{f:α->D}:∀xs:List α,AV.pT id ds (xs.map (aD f))=xs.map (aD f)
 |[]=>by simp only[cT,AV.pT]
 |x::xs=>by simp only[aO,AV.pT,JU xs,aD,AV.nF]
theorem Rl{α:Type}{f:α->D}{xs:List α}:(xs.map f).map AV.d=xs.map (aD f):=(IU f xs).symm
theorem Kq{α:Type}{ρ:Nat->Option Nat}{f:α->D}:∀xs:List α,AV.jk ρ (xs.map (aD f))=xs.map (aD f)
 |[]=>by simp only[cT,AV.jk]
 |x::xs=>by simp only[aO,AV.jk,Kq xs,aD,AV.lq]
theorem KK{α:Type}{f:α->D}:∀xs:List α,AV.qS (xs.map (aD f))=some (xs.map f)
 |[]=>rfl
 |x::xs=>by simp only[aO,aD,AV.qS,ay];exact⟨_,KK xs,rfl⟩
theorem Yu{α:Type}{f:α->D}{xs:List α}:AV.mk (xs.map (aD f))=.d (.agg (xs.map f)):=by unfold AV.mk;rw[KK]
def YW{α:Type}(f:α->D)(xs:List α):D:=.agg (xs.map f)
theorem Ed{P:Program}{k0 f:Nat}{args env:List AV}{s:iw}{d:Option Nat}{R:List AV->iw->Prop}{α:Type}(id:Nat){t:Nat}(g:α->D)(xs:List α)(hid:k0<=id)
 (ho:sat s id=.obj t (xs.map (aD g))) (hd:∀x,iy (g x)=[g x]) (h:mu P k0 f (AV.pT id (xs.map g) args) (AV.pT id (xs.map g) env) (tr id (xs.map g) s) d R):
 mu P k0 f args env s d R:=fun C β a w vs hC hst hvs=>by
 subst hC;have ho':sat s id=.obj t ((xs.map g).map .d):=by rw[ho,IU]
 have hd':∀d∈xs.map g,iy d=[d]:=fun d h=>by obtain⟨x,_,rfl⟩:=bq.1 h;exact hd x
 refine h C (iA β id .no) a w vs rfl ⟨hst.defers,hst.inv.nF hid (.inl ⟨t,ho',hd'⟩),by rw[yt,hst.len],fun i x hx=>?_⟩ (xp hst.inv (.inl ⟨t,ho',hd'⟩) _ _ hvs);rw[vZ]at hx;cases hx2:env[i]? with
 |none=>rw[hx2]at hx;cases hx
 |some y=>rw[hx2]at hx;cases hx;exact BA hst.inv (.inl ⟨t,ho',hd'⟩) y _ (hst.env i y hx2)
theorem CZ{P:Program}{k0 f:Nat}{args env:List AV}{s s':iw}{d:Option Nat}{R:List AV->iw->Prop}(hs:lg s s')(h:mu P k0 f args env s' d R):mu P k0 f args env s d R:=
 fun C β a w vs hC hst hvs=>by
 obtain⟨h1,hf⟩:=hst.inv.told hs.sat;exact h C β a w vs hC ⟨hst.defers,h1,hst.len,fun i y hy=>by rw[hf];exact hst.env i y hy⟩ (by rw[hf];exact hvs)
attribute [go_sem] Dg NN E8 E9 Bz AG Iv E7 E_ Iu Dh BB JU Rl Kq Yu Ob.nF tr QU O2 ES List.flatten_cons List.flatten_nil YW Nat.mul_one List.length_set List.length_replicate
def kT{α:Type}(f:α->D)(xs:List α):List D:=(xs.map f).flatMap iy
theorem Gv{α:Type}{f:α->D}:kT f []=[]:=rfl
theorem sx{α:Type}{f:α->D}{x:α}{xs:List α}:kT f (x::xs)=iy (f x)++kT f xs:=by simp[kT]
theorem BZ{α:Type}{f:α->D}{xs ys:List α}:kT f (xs++ys)=kT f xs++kT f ys:=by simp[kT]
theorem B0{α:Type}{f:α->D}{e:Nat}(he:∀x,(iy (f x)).length=e):∀xs:List α,(kT f xs).length=xs.length*e
 |[]=>by simp[kT]
 |x::xs=>by rw[sx,ai,he,B0 he xs,aJ,bQ];omega
theorem Ey{α:Type}{f:α->D}{e:Nat}(he:∀x,(iy (f x)).length=e):∀(xs:List α)(i k:Nat)[Inhabited α],i<xs.length->k<=e->
 List.drop (i*e+k) (kT f xs)=(iy (f (xs.getD i default))).drop k++kT f (xs.drop (i+1))
 |[],i,k,_,h,_=>by simp at h
 |x::xs,0,k,_,h,hk=>by
  rw[sx,eP,ck,de (by rw[he];exact hk)];simp
 |x::xs,i+1,k,_,h,hk=>by
  have e1:(i+1)*e+k=(iy (f x)).length+(i*e+k):=by rw[he,bQ];omega
  rw[sx,e1,List.drop_append,bM h_,bA,dI,Ey he xs i k (by simpa using h) hk];simp
theorem Lo{α:Type}[Inhabited α]{f:α->D}{e:Nat}(he:∀x,(iy (f x)).length=e){xs:List α}{i k:Nat}(hi:i<xs.length)(hk:k<e){d:D}:
 (kT f xs).getD (i*e+k) d=(iy (f (xs.getD i default))).getD k d:=by
 have h:=Ey he xs i k hi h_;have h1:(kT f xs).getD (i*e+k) d=(List.drop (i*e+k) (kT f xs)).getD 0 d:=by simp[List.getD_eq_getElem?_getD]
 have h2:k<(iy (f (xs.getD i default))).length:=by rw[he];exact hk
 rw[h1,h];simp only[List.getD_eq_getElem?_getD];rw[aW (by rw[cG,he];omega),cy];simp
theorem Inv.YU{C:Ctx}{β:iE}{s:iw}{w:World}(h:Inv C β s w){id t e:Nat}(ho:sat s id=.tok t e 0):
 Inv C β (sset s id (.kU t e 0 [])) w/\C.iz β (sset s id (.kU t e 0 []))=C.iz β s:=by
 have hown:∀b o,own β (sset s id (.kU t e 0 [])) b o<->own β s b o:=fun b o=>by
  unfold own;refine exists_congr fun i=>?_
  rw[kB];by_cases hi:i=id
  ·subst hi;rw[ho];simp
  ·rw[aj hi]
 have hblk:∀i b,ig β (sset s id (.kU t e 0 [])) i b<->ig β s i b:=fun i b=>by
  unfold ig;rw[kB];by_cases hi:i=id
  ·subst hi;rw[ho];simp
  ·rw[aj hi]
 have hf:C.iz β (sset s id (.kU t e 0 []))=C.iz β s:=by funext b o;exact propext (or_congr cX (hown b o))
 refine⟨⟨h.size,h.io,h.keep,h.qN,fun b o ho=>h.qd b o ((hown b o).1 ho),fun id b hb=>h.tq id b ((hblk id b).1 hb),h.pl,h.low,fun i=>?_,
  fun i j b hi hj=>h.inj i j b ((hblk i b).1 hi) ((hblk j b).1 hj)⟩,hf⟩
 rw[hf,kB];have h1:=h.obs i;by_cases hi:i=id
 ·subst hi;rw[ho]at h1;obtain⟨u,h2,h3⟩:=h1;simp only[aC];refine⟨u,h2,by simp,?_⟩;rcases h3 with h3|⟨b,cap,vs,k1,k2,k3,k4,k5,k6⟩
  ·exact .inl h3
  ·exact .inr ⟨b,cap,vs,k1,k2,k3,k4,k5,k6,[],vs.toList,rfl,by simp[D.iP]⟩
 ·rw[aj hi];exact h1
theorem BS.kU{α:Type}{s:iw}{id t e:Nat}(f:α->D)(xs:List α)(ho:sat s id=.kU t e xs.length (kT f xs))(he:∀x,(iy (f x)).length=e):BS s id (xs.map f):=
 .inr (.inl ⟨t,e,by rw[aT];exact ho,fun d hd=>by obtain⟨x,_,rfl⟩:=bq.1 hd;exact he x⟩)
theorem iV.QM{α:Type}{k:Nat}{env:List AV}{s:iw}(id:Nat){t e:Nat}(f:α->D)(xs:List α)(hid:k<=id)(ho:sat s id=.kU t e xs.length (kT f xs))(he:∀x,(iy (f x)).length=e):
 iV k env s (AV.pT id (xs.map f) env) (tr id (xs.map f) s):=iV.QL id hid (.kU f xs ho he)
theorem NQ{α:Type}{id e:Nat}{f:α->D}(he:∀x,(iy (f x)).length=e){xs:List α}:AV.nF id (xs.map f) (.mX e id xs.length)=.d (iq e f xs):=by
 simp only[AV.nF,aC];rw[ah ⟨by simp,fun d hd=>by obtain⟨x,_,rfl⟩:=bq.1 hd;exact he x⟩];rfl
theorem By{id e j n:Nat}{ds:List D}(h:¬j=id):AV.nF id ds (.mX e j n)=.mX e j n:=by simp only[AV.nF,aj h]
theorem Df{id j k off:Nat}{ds:List D}:AV.nF id ds (.lN j k off)=if j=id then .iG else .lN j k off:=by simp only[AV.nF]
def jA(k:Nat)(x:AV)(s:iw)(y:AV)(t:iw):Prop:=∀(C:Ctx)(β:iE)(w:World)(v:Value),C.k=k->Inv C β s w->AV.ok β (C.iz β s) w x v->
 ∃β',Inv C β' t w/\AV.ok β' (C.iz β' t) w y v
theorem jA.refl{k:Nat}{x:AV}{s:iw}:jA k x s x s:=fun _ β _ _ _ h1 h2=>⟨β,h1,h2⟩
theorem jA.trans{k:Nat}{x y z:AV}{s t u:iw}(h1:jA k x s y t)(h2:jA k y t z u):jA k x s z u:=fun C β w v hC h3 h4=>let⟨β1,h5,h6⟩:=h1 C β w v hC h3 h4;h2 C β1 w v hC h5 h6
theorem jA.told{k:Nat}{x y:AV}{s t:iw}(hx:AV.le x y)(hs:lg s t):jA k x s y t:=fun C β w v _ h3 h4=>by
 obtain⟨h1,hf⟩:=h3.told hs.sat;exact⟨β,h1,by rw[hf];exact hx _ _ _ _ h4⟩
theorem jA.zG{k:Nat}{x:AV}{s:iw}(ids:List Nat)(hi:∀i∈ids,k<=i):jA k x s (Af ids x) (wZ ids s):=fun C β w v hC h3 h4=>by
 subst hC;obtain⟨β1,h1,h2⟩:=h3.zG hi;exact⟨β1,h1,h2 _ _ h4⟩
theorem jA.nF{k:Nat}{x:AV}{s:iw}(id:Nat){ds:List D}(hid:k<=id)(ho:BS s id ds):jA k x s (x.nF id ds) (tr id ds s):=fun C β w v hC h3 h4=>by
 subst hC;exact⟨_,h3.nF hid ho,BA h3 ho _ _ h4⟩
theorem iH.done{P:Program}{f:Nat}{args:List AV}{s:iw}{k:Nat}{y:AV}{t:iw}(h:iH P f args s k fun x s'=>jA k x s' y t):iH P f args s k fun x s'=>x=y/\s'=t:=fun C vs h1 h2 h3 h4=>
 (h C vs h1 h2 h3 h4).mono fun _ w' ⟨v,_,β',_,e1,e2,e3,e4⟩=>let⟨β2,h5,h6⟩:=e4 C β' w' v h2 e2 e3;⟨v,y,β2,t,e1,h5,h6,rfl,rfl⟩
theorem kS.If{P:Program}{f:Nat}{mc:ir}{n:Nat}{rs:List sW}(h:kS P f mc n rs){args:List AV}{s t:iw}{k:Nat}{y:AV}
 (hm:ot P k mc (Gq rs fun x s'=>jA k x s' y t) (args++List.replicate (n-args.length) .iG) s):iH P f args s k fun x s'=>x=y/\s'=t:=iH.done (h.calls hm)
def tf(i j:Nat):Nat->Option Nat:=fun q=>if q=i then some j else if q=j then none else some q
def rm(i j:Nat)(β:iE):iE:=fun q=>if q=j then β i else if q=i then .no else β q
def vV(i j:Nat)(ob:Ob):iw->iw
 |[]=>[(j,ob)]
 |(q,x)::r=>if q=i\/q=j then vV i j ob r else(q,x.lq (tf i j))::vV i j ob r
theorem BP(i j:Nat)(ob:Ob)(q:Nat):∀s:iw,sat (vV i j ob s) q=if q=j then ob else if q=i then .dead else(sat s q).lq (tf i j)
 |[]=>by by_cases h:q=j<;>simp[vV,sat,h,Ob.lq]
 |(p,x)::r=>by
  simp only[vV];by_cases hp:p=i\/p=j
  ·rw[ah hp,BP i j ob q r];by_cases h1:q=j
   ·simp[h1]
   ·by_cases h2:q=i
    ·simp[h2]
    ·have:q≠p:=by rintro rfl;exact hp.elim h2 h1
     simp only[h1,h2,aB,sat,this]
  ·rw[aj hp];simp only[sat,BP i j ob q r];by_cases h1:q=p
   ·subst h1;have h2:¬q=i:=fun e=>hp (.inl e)
    have h3:¬q=j:=fun e=>hp (.inr e)
    simp[h2,h3]
   ·simp[h1]
theorem Inv.Yv{C:Ctx}{β:iE}{s s':iw}{w:World}(h:Inv C β s w){i j:Nat}(hi:C.k<=i)(hj:C.k<=j)(hij:i≠j)(hd:sat s j=.dead)
 (hs:∀q,sat s' q=if q=j then(sat s i).lq (tf i j)else if q=i then .dead else(sat s q).lq (tf i j)):
 Inv C (rm i j β) s' w/\∀x v,AV.ok β (C.iz β s) w x v->AV.ok (rm i j β) (C.iz (rm i j β) s') w (x.lq (tf i j)) v:=by
 have from_:∀q,(q=i/\sat s' q=.dead)\/∃p,sat s' q=(sat s p).lq (tf i j)/\rm i j β q=β p/\(p=if q=j then i else q):=fun q=>by
  by_cases h1:q=j
  ·subst h1;exact .inr ⟨i,by rw[hs,ah rfl],by simp[rm],by simp⟩
  ·by_cases h2:q=i
   ·subst h2;exact .inl ⟨rfl,by rw[hs,aj h1,ah rfl]⟩
   ·exact .inr ⟨q,by rw[hs,aj h1,aj h2],by simp[rm,h1,h2],by simp[h1]⟩
 have hown:∀b o,own (rm i j β) s' b o<->own β s b o:=fun b o=>by
  constructor
  ·rintro⟨q,hq⟩;rcases from_ q with⟨_,h1⟩|⟨p,h1,h2,_⟩
   ·rw[h1]at hq;exact hq.elim
   ·exact⟨p,(sA (i:=p) (j:=q) h2 h1).1 hq⟩
  ·rintro⟨p,hp⟩;by_cases h1:p=i
   ·subst h1;exact⟨j,(sA (i:=p) (j:=j) (ρ:=tf p j) (by simp[rm]) (by rw[hs,ah rfl])).2 hp⟩
   ·by_cases h2:p=j
    ·subst h2;rw[hd]at hp;exact hp.elim
    ·exact⟨p,(sA (i:=p) (j:=p) (ρ:=tf i j) (by simp[rm,h1,h2]) (by rw[hs,aj h2,aj h1])).2 hp⟩
 have hblk:∀q b,ig (rm i j β) s' q b->∃p,ig β s p b/\(p=if q=j then i else q)/\(q=j\/q≠i):=fun q b hq=>by
  rcases from_ q with⟨_,h1⟩|⟨p,h1,h2,h3⟩
  ·unfold ig at hq;rw[h1]at hq;exact hq.elim
  ·refine⟨p,(vW h2 h1).1 hq,h3,?_⟩;by_cases h4:q=j
   ·exact .inl h4
   ·refine .inr fun h5=>?_
    subst h5;unfold ig at hq;rw[hs,aj h4,ah rfl]at hq;exact hq.elim
 have hf:C.iz (rm i j β) s'=C.iz β s:=by funext b o;exact propext (or_congr cX (hown b o))
 have hρ:∀a b,tf i j a=some b->rm i j β b=β a:=fun a b hab=>by
  unfold tf at hab;split at hab
  ·rename_i h1;cases hab;subst h1;simp[rm]
  ·split at hab
   ·cases hab
   ·rename_i h1 h2;cases hab;simp[rm,h1,h2]
 refine⟨⟨h.size,h.io,h.keep,h.qN,fun b o ho=>h.qd b o ((hown b o).1 ho),fun q b hb=>let⟨p,hp,_⟩:=hblk q b hb;h.tq p b hp,fun q hq=>?_,h.low,fun q=>?_,fun q q' b h1 h2=>?_⟩,
  fun x v hx=>by rw[hf];exact AV.uB hρ x v hx⟩
 ·have h1:q≠i:=by omega
  have h2:q≠j:=by omega
  simpa[rm,h1,h2]using h.pl q hq
 ·rw[hf];rcases from_ q with⟨h0,h1⟩|⟨p,h1,h2,_⟩
  ·rw[h1];subst h0;simp[vB,rm,hij]
  ·rw[h1];have ho:=h.obs p;cases hp:sat s p with
   |dead=>rw[hp]at ho;exact h2.trans ho
   |obj t cs=>rw[hp]at ho;obtain⟨b,vs,k1,k2,k3,k4⟩:=ho;exact⟨b,vs,h2.trans k1,k2,k3,k4.imp fun _ hx=>AV.uR hρ _ _ hx⟩
   |tok t e n=>rw[hp]at ho;obtain⟨u,k1,k2⟩:=ho;exact⟨u,h2.trans k1,k2⟩
   |kU t e n cs=>rw[hp]at ho;obtain⟨u,k1,k2⟩:=ho;exact⟨u,h2.trans k1,k2⟩
   |oR t e n cs=>
    rw[hp]at ho;obtain⟨u,bs,k1,k0,k2⟩:=ho;refine⟨u,bs,h2.trans k1,k0,?_⟩;show FU _ _ _ _ _ _ _ _ (AV.jk _ cs);rw[nS];exact k2.imp (fun x v=>rJ fun hx=>AV.uB hρ _ _ hx) (fun _ _=>rfl) (fun _ _ _=>rfl)
   |tK e n cs=>
    rw[hp]at ho;obtain⟨u,bs,k1,k0,k2⟩:=ho;refine⟨u,bs,h2.trans k1,k0,?_⟩;show FV _ _ _ _ _ _ _ (AV.jk _ cs);rw[nS];exact k2.imp (fun x v=>rJ fun hx=>AV.uB hρ _ _ hx) (fun _ _=>rfl) (fun _ _ _ _=>rfl)
   |mp P k es=>rw[hp]at ho;obtain⟨b,k1,k2⟩:=ho;exact⟨b,h2.trans k1,k2⟩
 ·obtain⟨p,hp,e1,e2⟩:=hblk q b h1;obtain⟨p',hp',e3,e4⟩:=hblk q' b h2;have:=h.inj p p' b hp hp';subst this;rw[e1]at e3;by_cases h5:q=j<;>by_cases h6:q'=j<;>simp[h5,h6]at e3 e2 e4⊢<;>first|exact e3|exact absurd e3.symm e4|exact absurd e3 e2|skip
theorem jA.move{k:Nat}{x:AV}{s:iw}(i j:Nat){ob:Ob}(hi:k<=i)(hj:k<=j)(hij:i≠j)(hd:sat s j=.dead)(ho:(sat s i).lq (tf i j)=ob):
 jA k x s (x.lq (tf i j)) (vV i j ob s):=fun C β w v hC h3 h4=>by
 subst hC;obtain⟨h5,h6⟩:=h3.Yv (s':=vV i j ob s) hi hj hij hd fun q=>by rw[BP,ho]
 exact⟨_,h5,h6 x v h4⟩
class Al {α:Type} (f:α->D):Prop where
 one:∀x,iy (f x)=[f x]
instance:xd iD 1:=⟨fun _=>rfl⟩
instance:xd bD 1:=⟨fun _=>rfl⟩
instance{k:IntKind}:xd (kD k) 1:=⟨fun _=>rfl⟩
instance:xd sD 1:=⟨fun _=>rfl⟩
instance{α:Type}{e:Nat}{f:α->D}:xd (iq e f) 1:=⟨fun _=>rfl⟩
instance:Al iD:=⟨fun _=>rfl⟩
instance:Al bD:=⟨fun _=>rfl⟩
instance{k:IntKind}:Al (kD k):=⟨fun _=>rfl⟩
instance:Al sD:=⟨fun _=>rfl⟩
instance{α:Type}{e:Nat}{f:α->D}:Al (iq e f):=⟨fun _=>rfl⟩
section
variable{α:Type}[Inhabited α]{f:α->D}{e:Nat}{xs ys:List α}{i k n:Nat}{y:α}{d:D}{ds:List D}
theorem Gw[xd f e](hi:i<xs.length)(hk:0<e):(kT f xs).getD (i*e) d=(iy (f (xs.getD i default))).getD 0 d:=Lo (k:=0) xd.len hi hk
theorem NZ[xd f 1](hi:i<xs.length):(kT f xs).getD i d=(iy (f (xs.getD i default))).getD 0 d:=by have:=Gw (f:=f) (e:=1) (d:=d) hi h_;rwa [Nat.mul_one]at this
omit [Inhabited α]in
theorem QW[xd f e]:(kT f xs).length=xs.length*e:=B0 xd.len xs
omit [Inhabited α]in
theorem NY:List.flatMap iy (List.map f ys)=kT f ys:=rfl
omit [Inhabited α]in
theorem QV:kT f xs++kT f ys=kT f (xs++ys):=BZ.symm
omit [Inhabited α]in
theorem JV[Al f]:kT f xs=xs.map f:=by
 induction xs with
 |nil=>rfl
 |cons x xs ih=>rw[sx,Al.one,ih];rfl
omit [Inhabited α]in
theorem Lq[Al f]:kT f xs++f y::ds=kT f (xs++[y])++ds:=by rw[BZ,sx,Al.one,Gv,aH];rfl
omit [Inhabited α]in
theorem Gx[Al f](hi:i<xs.length):List.take i (kT f xs)++f y::List.drop (i+1) (kT f xs)=kT f (xs.set i y):=by rw[JV,JV,List.map_set,ef,ah (by simpa using hi)]
omit [Inhabited α]in
theorem Lp[Al f](hi:i<xs.length):List.take i (kT f xs)++[f y]++List.drop (i+1) (kT f xs)=kT f (xs.set i y):=by rw[aH];exact Gx hi
omit [Inhabited α]in
theorem NP[xd f e]{id:Nat}:AV.nF id (xs.map f) (.mX e id xs.length)=.d (iq e f xs):=NQ xd.len
omit [Inhabited α]in
theorem iV.QK[xd f e]{k0 t:Nat}{env:List AV}{s:iw}(id:Nat)(f':α->D)(hf:f'=f)(xs:List α)(hid:k0<=id)(ho:sat s id=.kU t e xs.length (kT f xs)):
 iV k0 env s (AV.pT id (xs.map f') env) (tr id (xs.map f') s):=by subst hf;exact iV.QM id f' xs hid ho xd.len
omit [Inhabited α]in
theorem jA.ZX[xd f e]{k0 t:Nat}{x:AV}{s:iw}(id:Nat)(f':α->D)(hf:f'=f)(xs:List α)(hid:k0<=id)(ho:sat s id=.kU t e xs.length (kT f xs)):
 jA k0 x s (x.nF id (xs.map f')) (tr id (xs.map f') s):=by subst hf;exact jA.nF id hid (.kU f' xs ho xd.len)
end
attribute [go_sem] Gw NZ QW NY QV Lq Gx Lp sx Gv
attribute [go_sem] By Df
theorem K9{e id n:Nat}:AV.cells (.mX e id n)=some [.mX e id n]:=rfl
theorem Ij{id k off:Nat}:AV.cells (.lN id k off)=some [.lN id k off]:=rfl
theorem Pf{e id n:Nat}{xs:List AV}:AV.qS (.mX e id n::xs)=none:=rfl
theorem L3{id k off:Nat}{xs:List AV}:AV.qS (.lN id k off::xs)=none:=rfl
attribute [go_sem] K9 Ij Pf L3 tf vV
theorem iH.Wl{P:Program}{f:Nat}{args:List AV}{s:iw}{k:Nat}{z:AV}(h:iH P f args s k fun x s'=>∃y t,jA k x s' y t/\AV.le y z):iH P f args s k fun x _=>x=z:=fun C vs h1 h2 h3 h4=>
 (h C vs h1 h2 h3 h4).mono fun _ w' ⟨v,_,β',_,e1,e2,e3,_,t,e4,e5⟩=>let⟨β2,h5,h6⟩:=e4 C β' w' v h2 e2 e3;⟨v,z,β2,t,e1,h5,e5 _ _ _ _ h6,rfl⟩
theorem kS.T6{P:Program}{f:Nat}{mc:ir}{n:Nat}{rs:List sW}(h:kS P f mc n rs){args:List D}{r:D}
 (hm:ot P 0 mc (Gq rs fun x s'=>∃y t,jA 0 x s' y t/\AV.le y (.d r)) (args.map .d++List.replicate (n-(args.map AV.d).length) .iG) []):jW P f args r:=iH.Wl (h.calls hm)
section
variable{α:Type}{f:α->D}{e:Nat}{xs:List α}
theorem De[xd f e]{id n:Nat}(h:n=xs.length):AV.nF id (xs.map f) (.mX e id n)=.d (iq e f xs):=by subst h;exact NP
theorem iV.QN[xd f e]{k0 t n:Nat}{env:List AV}{s:iw}{ds:List D}(id:Nat)(f':α->D)(hf:f'=f)(xs:List α)(hid:k0<=id)(ho:sat s id=.kU t e n ds)(hn:n=xs.length)(hs:ds=kT f xs):
 iV k0 env s (AV.pT id (xs.map f') env) (tr id (xs.map f') s):=by subst hn;subst hs;exact iV.QK id f' hf xs hid ho
theorem jA.ZZ[xd f e]{k0 t n:Nat}{x:AV}{s:iw}{ds:List D}(id:Nat)(f':α->D)(hf:f'=f)(xs:List α)(hid:k0<=id)(ho:sat s id=.kU t e n ds)(hn:n=xs.length)(hs:ds=kT f xs):
 jA k0 x s (x.nF id (xs.map f')) (tr id (xs.map f') s):=by subst hn;subst hs;exact jA.ZX id f' hf xs hid ho
end
attribute [go_sem] De
theorem Wq{d:D}{ds:List D}:List.flatMap iy (d::ds)=iy d++List.flatMap iy ds:=cU
theorem Wr:List.flatMap iy []=[]:=rfl
attribute [go_sem] Wq Wr
def jN{α:Type}(t:Prop)(x:Option α)(P:α->Prop):Prop:=(∀a,x=some a->P a)/\(t->∃a,x=some a)
theorem jN.some{α:Type}{t:Prop}{a:α}{P:α->Prop}(h:P a):jN t (Option.some a) P:=⟨fun b hb=>by cases hb;exact h,fun _=>⟨a,rfl⟩⟩
theorem jN.bind{α β:Type}{t:Prop}{x:Option α}{f:α->Option β}{P:α->Prop}{Q:β->Prop}(h:jN t x P)(hf:∀a,P a->jN t (f a) Q):jN t (x.bind f) Q:=
 ⟨fun b hb=>let⟨a,h1,h2⟩:=aq.1 hb;(hf a (h.1 a h1)).1 b h2,fun ht=>by
  obtain⟨a,ha⟩:=h.2 ht;obtain⟨b,hb⟩:=(hf a (h.1 a ha)).2 ht;exact⟨b,by rw[ha,aa,hb]⟩⟩
theorem jN.ite{α:Type}{t:Prop}{c:Bool}{x y:Option α}{P:α->Prop}(h1:c=true->jN t x P)(h2:c=false->jN t y P):jN t (if c=true then x else y) P:=by
 cases c with
 |true=>simpa using h1 rfl
 |false=>simpa using h2 rfl
theorem jN.weak{α:Type}{t t':Prop}{x:Option α}{P:α->Prop}(h:jN t x P)(ht:t'->t):jN t' x P:=⟨h.1,fun hx=>h.2 (ht hx)⟩
theorem jN.inr{σ β:Type}{t:Prop}{x:Option β}{P:σ⊕β->Prop}(h:jN t x fun b=>P (.inr b)):jN t (x.map Sum.inr) P:=
 ⟨fun a ha=>by
  cases x with
  |none=>cases ha
  |some b=>cases ha;exact h.1 b rfl,fun ht=>let⟨a,ha⟩:=h.2 ht;⟨.inr a,by rw[ha];rfl⟩⟩
theorem jN.eq{α:Type}{x:Option α}{a:α}(h:jN True x (·=a)):x=Option.some a:=by obtain⟨b,hb⟩:=h.2 trivial;rw[hb,h.1 b hb]
theorem jN.of{α:Type}{t:Prop}{x:Option α}{a:α}{P:α->Prop}(h:x=Option.some a)(hp:P a):jN t x P:=by rw[h];exact .some hp
theorem jN.get{α:Type}{x:Option α}{P:α->Prop}(h:jN True x P):∃a,x=Option.some a/\P a:=by obtain⟨b,hb⟩:=h.2 trivial;exact⟨b,hb,h.1 b hb⟩
theorem jN.P8{α β:Type}{t:Prop}{xs:List α}{a b:Option β}{P:β->Prop}(h:jN t b P)(he:xs=[]->a=b):jN t (KQ xs a b) P:=by
 unfold KQ;split
 ·rename_i hx;rw[ah (he hx)];exact h
 ·exact h
def yc{σ β:Type}(inv:σ->Prop)(μ:σ->Nat)(Q:β->Prop)(m:Nat):σ⊕β->Prop
 |.inl s'=>inv s'/\μ s'<m
 |.inr b=>Q b
theorem jN.loop{σ β:Type}{t:Prop}{f:σ->Option (σ⊕β)}{Q:β->Prop}(inv:σ->Prop)(μ:σ->Nat){s:σ}(h0:inv s)(h:∀s,inv s->jN t (f s) (yc inv μ Q (μ s))):jN t (iB f s) Q:=by
 constructor
 ·intro b hb;obtain⟨n,hn⟩:=qz hb;clear hb;induction n generalizing s with
  |zero=>exact hn.elim
  |succ n ih=>
   rcases hn with hn|⟨s',hs,hn⟩
   ·exact(h s h0).1 _ hn
   ·exact ih ((h s h0).1 _ hs).1 hn
 ·intro ht;have key:∀n s,μ s=n->inv s->∃b,iB f s=Option.some b:=by
   intro n;induction n using Nat.strongRecOn with
   |_ n ih=>
    intro s hn hs;obtain⟨r,hr⟩:=(h s hs).2 ht;have:=(h s hs).1 r hr;cases r with
    |inl s'=>obtain⟨b,hb⟩:=ih (μ s') (hn▸this.2) s' rfl this.1;exact⟨b,by rw[iW hr,hb]⟩
    |inr b=>exact⟨b,iL hr⟩
  exact key _ s rfl h0
theorem jN.V2{α:Type}{t:Prop}{f:Nat->Option α}{P:α->Prop}(m:Nat)(h:∀n,jN (m<=n) (f n) P):jN t (AL f) P:=by
 constructor
 ·intro a ha;obtain⟨n,hn⟩:=qO ha;exact(h n).1 a hn
 ·intro _;obtain⟨a,ha⟩:=(h m).2 (aA _);have hx:∃a n,f n=Option.some a:=⟨a,m,ha⟩;unfold AL;rw[dif_pos hx];exact⟨_,rfl⟩
def oz{α:Type}(e:Nat)(f:α->D)(xs:List α):D:=.sl e (some xs.isEmpty) (xs.map f)
section
variable{α:Type}{e id:Nat}{f:α->D}{xs:List α}{O:Own}{w:World}
theorem R7:qR (.d (oz e f xs))=some (e,xs.map f):=rfl
theorem Rx:zh (.d (oz e f xs))=some xs.isEmpty:=rfl
theorem Lb:AV.cells (.d (oz e f xs))=some [.d (oz e f xs)]:=rfl
theorem HT:AV.CN (.d (oz e f xs))=none:=rfl
theorem Io:iy (oz e f xs)=[oz e f xs]:=rfl
theorem DL.nz(h:0<xs.length):DL (iq e f xs) (oz e f xs):=fun O w v hv=>by
 simp only[iq,oz,D.ok]at hv⊢;obtain⟨a,cap,h1,h2,_,h4⟩:=hv;refine⟨a,cap,h1,h2,?_,h4⟩;have hne:xs≠[]:=cc.1 h;have he:xs.isEmpty=false:=by simpa using hne
 rcases h4 with h4|⟨b,o,rfl,_⟩
 ·exact absurd (List.map_eq_nil_iff.1 h4) hne
 ·simp[KN,he]
theorem DL.T4:DL (oz e f xs) (iq e f xs):=DL.forget
theorem DL.Vh{e':Nat}:DL (.sl e' (some true) []) (oz e f []):=fun O w v hv=>by
 simp only[oz,D.ok,cT]at hv⊢;obtain⟨a,cap,h1,h2,h3,h4⟩:=hv;exact⟨a,cap,h1,h2,h3,.inl trivial⟩
theorem zf(h:0<xs.length):AV.le (.d (iq e f xs)) (.d (oz e f xs))<->True:=⟨fun _=>trivial,fun _=>AV.xy (DL.nz h)⟩
theorem vj(h:0<xs.length):AV.le (.own e id (xs.map f)) (.d (oz e f xs))<->True:=⟨fun _=>trivial,fun _=>AV.Ra fun O w v hv=>DL.nz h O w v hv⟩
theorem IG{e':Nat}:AV.le (.d (.sl e' (some true) [])) (.d (oz e f []))<->True:=⟨fun _=>trivial,fun _=>AV.xy DL.Vh⟩
end
theorem OS{α:Type}{e e':Nat}{f:α->D}{O:Own}{w:World}{b:Nat}:∀{o:Nat}{xs:List (List α)},D.row O w b o e (xs.map (oz e' f))->D.row O w b o e (xs.map (iq e' f))
 |_,[],h=>h
 |o,x::xs,h=>by
  simp only[aO,oz,iq,D.row]at h⊢;obtain⟨⟨v,h1,h2,h3⟩,h4⟩:=h;exact⟨⟨v,h1,h2,DL.T4 _ _ _ h3⟩,OS h4⟩
theorem DL.YQ{α:Type}{e e':Nat}{f:α->D}{nl:Option Bool}{xs:List (List α)}:DL (.sl e nl (xs.map (oz e' f))) (.sl e none (xs.map (iq e' f))):=fun O w v hv=>by
 simp only[D.ok,aT,List.map_eq_nil_iff]at hv⊢;obtain⟨a,cap,h1,h2,_,h4⟩:=hv;refine⟨a,cap,h1,h2,trivial,h4.imp (fun h=>h) ?_⟩;rintro⟨b,o,h5,h6⟩;exact⟨b,o,h5,OS h6⟩
instance{α:Type}{e:Nat}{f:α->D}:xd (oz e f) 1:=⟨fun _=>rfl⟩
instance{α:Type}{e:Nat}{f:α->D}:Al (oz e f):=⟨fun _=>rfl⟩
theorem iY.set:∀{xs:List AV}{i:Nat}{a b:AV},AV.le a b->iY (xs.set i a) (xs.set i b)
 |[],_,_,_,_=>trivial
 |_::xs,0,_,_,h=>⟨h,.refl xs⟩
 |x::_,i+1,_,_,h=>⟨AV.le_refl x,iY.set h⟩
theorem Rc{α:Type}{f:α->D}{xs:List α}{i:Nat}{a:AV}{v:α}(h:i<xs.length)(hle:AV.le a (.d (f v))):
 iY (List.take i (xs.map (aD f))++(a::List.drop (i+1) (xs.map (aD f)))) ((xs.set i v).map (aD f)):=by
 have e1:List.take i (xs.map (aD f))++(a::List.drop (i+1) (xs.map (aD f)))=(xs.map (aD f)).set i a:=by rw[ef,ah (by simpa using h)]
 rw[e1,List.map_set];exact iY.set hle
attribute [go_sem] R7 Rx Lb HT Io IG
theorem lu{α β:Type}{f:α->β}{l:List α}{n:Nat}:List.take n (List.map f l)=List.map f (List.take n l):=List.map_take.symm
theorem lp{α β:Type}{f:α->β}{l:List α}{n:Nat}:List.drop n (List.map f l)=List.map f (List.drop n l):=List.map_drop.symm
theorem mA{α:Type}{l:List α}{n:Nat}(h:l.length<=n):List.take n l=l:=cg h
theorem mz{α:Type}{l:List α}{n:Nat}(h:l.length<=n):List.drop n l=[]:=bM h
theorem Cn:lg [] []:=trivial
theorem zB{i:Nat}{x y:Ob}{r r':iw}(h:zo x y)(hr:lg r r'):lg ((i,x)::r) ((i,y)::r'):=⟨rfl,h,hr⟩
theorem GO{α:Type}{f:α->D}{xs:List α}{i:Nat}{a:AV}{v:α}(h:i<xs.length)(hle:AV.le a (.d (f v))):
 iY (List.map (aD f) (List.take i xs)++[a]++List.map (aD f) (List.drop (i+1) xs)) ((xs.set i v).map (aD f)):=by
 have:=Rc (f:=f) (xs:=xs) (i:=i) (a:=a) (v:=v) h hle;rw[aH];simpa only[bI,bJ,bC,bA]using this
theorem UI:iY [] []:=trivial
theorem UH{x y:AV}{xs ys:List AV}(h:AV.le x y)(h':iY xs ys):iY (x::xs) (y::ys):=⟨h,h'⟩
theorem UF:ql [] []:=trivial
theorem UE{x y:D}{xs ys:List D}(h:D.le x y)(h':ql xs ys):ql (x::xs) (y::ys):=⟨h,h'⟩
theorem xm{e e':Nat}{nl:Option Bool}:D.le (.sl e nl []) (.sl e' none []):=fun O w vs h=>by
 simp only[D.HL]at h⊢;obtain⟨v,h1,h2⟩:=h;exact⟨v,h1,DL.nil _ _ _ h2⟩
theorem rZ{e:Nat}{nl:Option Bool}{xs:List D}:D.le (.sl e nl xs) (.sl e none xs):=fun O w vs h=>by
 simp only[D.HL]at h⊢;obtain⟨v,h1,h2⟩:=h;exact⟨v,h1,DL.forget _ _ _ h2⟩
theorem xl{xs ys:List D}(h:Uo xs ys):D.le (.agg xs) (.agg ys):=fun O w vs hv=>by
 simp only[D.HL]at hv⊢;exact h.iP hv
theorem II{α:Type}{e:Nat}{f:α->D}{xs:List α}:AV.le (.d (oz e f xs)) (.d (.sl e none (xs.map f)))<->True:=⟨fun _=>trivial,fun _=>AV.xy DL.T4⟩
theorem IK{α:Type}{e e':Nat}{f:α->D}{xs:List (List α)}:AV.le (.d (.sl e none (xs.map (oz e' f)))) (.d (.sl e none (xs.map (iq e' f))))<->True:=⟨fun _=>trivial,fun _=>AV.xy DL.YQ⟩
attribute [go_sem] II IK
theorem XF{α:Type}{x:AV}{f:α->D}{v:α}:AV.le x (aD f v)=AV.le x (.d (f v)):=(rfl)
theorem Kv{α:Type}{f:α->D}{xs:List α}{i:Nat}{v:α}(h:i<xs.length):List.map (aD f) (List.take i xs)++(AV.d (f v)::List.map (aD f) (List.drop (i+1) xs))=(xs.set i v).map (aD f):=by rw[bI,bJ];exact O2 h
theorem O3{α:Type}{f:α->D}{xs:List α}{i:Nat}{v:α}(h:i<xs.length):List.map (aD f) (List.take i xs)++[AV.d (f v)]++List.map (aD f) (List.drop (i+1) xs)=(xs.set i v).map (aD f):=by rw[aH];exact Kv h
attribute [go_sem] XF Kv O3
theorem iR{p q:Prop}(hq:q)(h:p=q:=by first|((conv=>lhs;simp(maxSteps:=1000000) (disch:=omega)only[go_sem,lu,lp,mA,mz,bF,bh,bA,Nat.reduceAdd,Nat.reduceSub,Nat.reduceLeDiff,Nat.reduceEqDiff,Nat.reduceLT,Int.reduceToNat,reduceIte,reduceCtorEq])<;>rfl)|rfl):p:=h▸hq
theorem uF{c p q:Prop}(hc:c)(hq:q)(h:p=q:=by first|((conv=>lhs;simp(maxSteps:=1000000) (disch:=omega)only[go_sem,lu,lp,mA,mz,bF,bh,bA,Nat.reduceAdd,Nat.reduceSub,Nat.reduceLeDiff,Nat.reduceEqDiff,Nat.reduceLT,Int.reduceToNat,reduceIte,reduceCtorEq,hc])<;>rfl)|rfl):p:=h▸hq
theorem lM{p:Prop}(h:p:=by first|(simp only[go_sem,iq,aR,bI,bJ,aH,Nat.reduceAdd,Nat.reduceSub,Nat.reduceLeDiff,Nat.reduceEqDiff,Nat.reduceLT,reduceIte,reduceCtorEq];done)|((try simp only[go_sem,iq,aR,bI,bJ,aH,Nat.reduceAdd,Nat.reduceSub,Nat.reduceLeDiff,Nat.reduceEqDiff,Nat.reduceLT,reduceIte,reduceCtorEq];repeat' (first|exact AV.le_refl _|refine And.intro ?_ ?_|refine AV.yy ?_|refine AV.vP ?_|refine AV.Ae ?_|refine AV.xy (DL.agg ?_)|exact UI|exact Cn|refine UH ?_ ?_|refine zB ?_ ?_|exact UF|refine UE ?_ ?_|exact si (AV.xy DL.nil) _|exact D.le_refl _|exact xm|exact rZ|refine xl ?_|(simp only[go_sem,iq,aR,bI,bJ,aH,Nat.reduceAdd,Nat.reduceSub,Nat.reduceLeDiff,Nat.reduceEqDiff,Nat.reduceLT,reduceIte,reduceCtorEq];done)|refine ql.append (ql.refl _) ?_|refine AV.tT ?_|refine AV.Dt ?_|omega));done)):p:=h
section
variable{P:Program}{k0 f:Nat}{args env:List AV}{s:iw}{d:Option Nat}{R:List AV->iw->Prop}{F:List (List Nat×List Nat)->List AV->iw->Prop}{ms:List iO}{acc:List (List Nat×List Nat)}{foot:List Nat}
end
theorem wk{k:Nat}{env env':List AV}{s s':iw}(h:iY env env':=by first|(simp only[go_sem,iq,aR,bI,bJ,aH,Nat.reduceAdd,Nat.reduceSub,Nat.reduceLeDiff,Nat.reduceEqDiff,Nat.reduceLT,reduceIte,reduceCtorEq];done)|((try simp only[go_sem,iq,aR,bI,bJ,aH,Nat.reduceAdd,Nat.reduceSub,Nat.reduceLeDiff,Nat.reduceEqDiff,Nat.reduceLT,reduceIte,reduceCtorEq];repeat' (first|exact AV.le_refl _|refine And.intro ?_ ?_|refine AV.yy ?_|refine AV.vP ?_|refine AV.Ae ?_|refine AV.xy (DL.agg ?_)|exact UI|exact Cn|refine UH ?_ ?_|refine zB ?_ ?_|exact UF|refine UE ?_ ?_|exact si (AV.xy DL.nil) _|exact D.le_refl _|exact xm|exact rZ|refine xl ?_|(simp only[go_sem,iq,aR,bI,bJ,aH,Nat.reduceAdd,Nat.reduceSub,Nat.reduceLeDiff,Nat.reduceEqDiff,Nat.reduceLT,reduceIte,reduceCtorEq];done)|refine ql.append (ql.refl _) ?_|refine AV.tT ?_|refine AV.Dt ?_|omega));done))(hs:lg s s':=by first|(simp only[go_sem,iq,aR,bI,bJ,aH,Nat.reduceAdd,Nat.reduceSub,Nat.reduceLeDiff,Nat.reduceEqDiff,Nat.reduceLT,reduceIte,reduceCtorEq];done)|((try simp only[go_sem,iq,aR,bI,bJ,aH,Nat.reduceAdd,Nat.reduceSub,Nat.reduceLeDiff,Nat.reduceEqDiff,Nat.reduceLT,reduceIte,reduceCtorEq];repeat' (first|exact AV.le_refl _|refine And.intro ?_ ?_|refine AV.yy ?_|refine AV.vP ?_|refine AV.Ae ?_|refine AV.xy (DL.agg ?_)|exact UI|exact Cn|refine UH ?_ ?_|refine zB ?_ ?_|exact UF|refine UE ?_ ?_|exact si (AV.xy DL.nil) _|exact D.le_refl _|exact xm|exact rZ|refine xl ?_|(simp only[go_sem,iq,aR,bI,bJ,aH,Nat.reduceAdd,Nat.reduceSub,Nat.reduceLeDiff,Nat.reduceEqDiff,Nat.reduceLT,reduceIte,reduceCtorEq];done)|refine ql.append (ql.refl _) ?_|refine AV.tT ?_|refine AV.Dt ?_|omega));done)):iV k env s env' s':=iV.V0 h hs
theorem jA.ZY{α:Type}{k:Nat}{x:AV}{s:iw}(id:Nat){t:Nat}(f:α->D)[Al f](xs:List α)(hid:k<=id)(ho:sat s id=.obj t (xs.map (aD f))):
 jA k x s (x.nF id (xs.map f)) (tr id (xs.map f) s):=
 jA.nF id hid (.inl ⟨t,by rw[ho,IU],fun d h=>by obtain⟨x,_,rfl⟩:=bq.1 h;exact Al.one x⟩)
theorem Ee{p:Prop}(h:p:=by(try simp(disch:=first|omega|(simp only[ai,aJ,bL,fA,aT,er,Nat.reduceAdd]<;>fail)|fail)only[Af,AV.lq,AV.jk,tf,iM,E_,E7,BB,Dh,AG,Gu,Bz,De,By,NN,Dg,E8,Iu,Iv,E9,Df]);first|(simp only[go_sem,iq,aR,bI,bJ,aH,Nat.reduceAdd,Nat.reduceSub,Nat.reduceLeDiff,Nat.reduceEqDiff,Nat.reduceLT,reduceIte,reduceCtorEq];done)|((try simp only[go_sem,iq,aR,bI,bJ,aH,Nat.reduceAdd,Nat.reduceSub,Nat.reduceLeDiff,Nat.reduceEqDiff,Nat.reduceLT,reduceIte,reduceCtorEq];repeat' (first|exact AV.le_refl _|refine And.intro ?_ ?_|refine AV.yy ?_|refine AV.vP ?_|refine AV.Ae ?_|refine AV.xy (DL.agg ?_)|exact UI|exact Cn|refine UH ?_ ?_|refine zB ?_ ?_|exact UF|refine UE ?_ ?_|exact si (AV.xy DL.nil) _|exact D.le_refl _|exact xm|exact rZ|refine xl ?_|(simp only[go_sem,iq,aR,bI,bJ,aH,Nat.reduceAdd,Nat.reduceSub,Nat.reduceLeDiff,Nat.reduceEqDiff,Nat.reduceLT,reduceIte,reduceCtorEq];done)|refine ql.append (ql.refl _) ?_|refine AV.tT ?_|refine AV.Dt ?_|omega));done)):p:=h
theorem aaq{p q:Prop}(hq:q)(h:p=q:=by first|((conv=>lhs;simp(disch:=first|omega|(simp only[ai,aJ,bL,fA,aT,er,Nat.reduceAdd]<;>fail)|fail)only[E_,E7,BB,Dh,AG,Gu,Bz,De,By,NN,Dg,E8,Iu,Iv,E9,Df])<;>rfl)|rfl):p:=h▸hq
section
variable{α:Type}{f:α->D}{e:Nat}
theorem jA.fz[xd f e]{k0 t n:Nat}{x:AV}{s:iw}{ds:List D}(id:Nat)(f':α->D)(hf:f'=f)(xs:List α)(ho:sat s id=.kU t e n ds:=by exact rfl)(hid:k0<=id:=by omega)(hn:n=xs.length:=by simp)
 (hs:ds=kT f xs:=by first|rfl|simp only[go_sem,iq,aR,bI,bJ,aH,Nat.reduceAdd,Nat.reduceSub,Nat.reduceLeDiff,Nat.reduceEqDiff,Nat.reduceLT,reduceIte,reduceCtorEq]):jA k0 x s (x.nF id (xs.map f')) (tr id (xs.map f') s):=jA.ZZ id f' hf xs hid ho hn hs
theorem iV.fz[xd f e]{k0 t n:Nat}{env:List AV}{s:iw}{ds:List D}(id:Nat)(f':α->D)(hf:f'=f)(xs:List α)(ho:sat s id=.kU t e n ds:=by exact rfl)(hid:k0<=id:=by omega)(hn:n=xs.length:=by simp)
 (hs:ds=kT f xs:=by first|rfl|simp only[go_sem,iq,aR,bI,bJ,aH,Nat.reduceAdd,Nat.reduceSub,Nat.reduceLeDiff,Nat.reduceEqDiff,Nat.reduceLT,reduceIte,reduceCtorEq]):iV k0 env s (AV.pT id (xs.map f') env) (tr id (xs.map f') s):=iV.QN id f' hf xs hid ho hn hs
end
def Iter(P:Program)(gf:Nat)(caps:List AV)(els:List (List D)):Prop:=
 AV.jk (fun _=>none) caps=caps/\(∀args w,(callFunc gf args).run P w=.ok (.enter gf args) w)/\
 ∀(O:Own)(W:World)(lb:Array Value),AV.iP (fun _=>.no) O W caps lb.toList->(∀b o,O b o->b<W.heap.size)->
  ∀(l:Nat)(J Jx:Nat->Own->World->Prop),
   (∀i X A B row,J i X A->A.grownBy B row->(∀r,row=some r->W.heap.size<=r/\∃o:Obj,A.heap[r]?=some o/\Bb o)->J i X B)->
   (∀i X A B row,Jx i X A->A.grownBy B row->(∀r,row=some r->W.heap.size<=r/\∃o:Obj,A.heap[r]?=some o/\Bb o)->Jx i X B)->
   (∀i X W1 (vs:Array Value),i<els.length->J i X W1->AV.iP (fun _=>.no) X W1 ((els.getD i []).map .d) vs.toList->YieldAt Fence.wide 0 P l vs W1 fun e W'=>∃X',
    ((e=.returned (.bool true)/\J (i+1) X' W')\/(e=.returned (.bool false)/\Jx (i+1) X' W'))/\(∀b o,X' b o->b<W'.heap.size)/\
    ∀b o v,W1.cell? ⟨b,o,none⟩=some v->¬X b o->W'.cell? ⟨b,o,none⟩=some v/\¬X' b o)->
   J 0 O W->
   CallsIn Fence.wide 0 P gf (#[.func (.yield l) #[] #[]]++lb) W fun e W'=>(∃v,e=.returned v)/\((∃X,J els.length X W')\/∃m X,m<els.length/\Jx (m+1) X W')
def xw(K:Nat):Nat->Option Nat:=fun i=>if i<K then some i else none
theorem Kh{β β':iE}{O:Own}{w:World}:∀{xs:List D}{vs:List Value},AV.iP β O w (xs.map .d) vs->AV.iP β' O w (xs.map .d) vs
 |[],vs=>fun h=>by simpa[AV.iP]using h
 |x::xs,vs=>fun h=>by
  simp only[aO,AV.iP,AV.ok]at h⊢;obtain⟨v,r,h1,h2,h3⟩:=h;exact⟨v,r,h1,h2,Kh h3⟩
theorem Inv.stays{C:Ctx}{β:iE}{s:iw}{w:World}(h:Inv C β s w):∀b o v,C.w.cell? ⟨b,o,none⟩=some v->¬C.iz C.β C.s b o->w.cell? ⟨b,o,none⟩=some v/\¬C.iz β s b o:=by
 intro b o v hc hn;refine⟨h.keep b o v hc fun h2=>hn (.inr h2),fun h2=>?_⟩;rcases h2 with h2|h2
 ·exact hn (.inl h2)
 ·rcases h.qd b o h2 with h3|h3
  ·exact hn (.inr h3)
  ·have:=pH hc;omega
def sj(C:Ctx)(β:iE)(env:List AV)(s:iw)(a:Act)(w:World):Prop:=∀i x,env[i]?=some x->AV.ok β (C.iz β s) w x (a.tmps.getD i undef)
theorem sj.later{C:Ctx}{β:iE}{env:List AV}{s:iw}{a:Act}{w:World}(hfix:AV.jk (xw C.k) env=env)(h:Inv C β s w)(he:sj C C.β env C.s a C.w):sj C β env s a w:=by
 intro i x hx;have h1:AV.ok (fun id=>if id<C.k then C.β id else .no) (C.iz C.β C.s) C.w (x.lq (xw C.k)) (a.tmps.getD i undef):=
  AV.uB (fun i j hij=>by
   unfold xw at hij;split at hij
   ·rename_i hlt;cases hij;simp[hlt]
   ·cases hij) x _ (he i x hx)
 have h2:x.lq (xw C.k)=x:=by
  have h3:(AV.jk (xw C.k) env)[i]?=(env[i]?).map (AV.lq (xw C.k)):=rI _ _ _;rw[hfix,hx]at h3;simpa using h3.symm
 rw[h2]at h1;refine AV.jY h.stays (fun id=>?_) _ _ h1;by_cases hlt:id<C.k
 ·simp only[hlt,aC];exact h.pl id hlt
 ·simp only[hlt,aB];trivial
theorem sj.pJ{C:Ctx}{β:iE}{env:List AV}{s:iw}{a:Act}{w w':World}{row:Option Nat}(h:sj C β env s a w)(hg:w.grownBy w' row)
 (hr:∀r,row=some r->∃o:Obj,w.heap[r]?=some o/\Bb o):sj C β env s a w':=
 fun i x hx=>AV.jY (fun _ _ _ hc hn=>⟨eE hc hg (Ck hr),hn⟩) (fun _=>.refl _) _ _ (h i x hx)
theorem Marks.now{C:Ctx}{β:iE}{s:iw}{w:World}{ds:List Deferred}(h:Marks C ds)(hi:Inv C β s w):
 ∃Ds:List Nat,ds=Ds.map yA/\Ds.Nodup/\∀D∈Ds,C.dom<=D/\D<C.w.heap.size/\w.heap[D]?=some (.deferred (some [])):=
 let⟨_,Ds,h1,h2,h3⟩:=h
 ⟨Ds,h1,h2,fun D hD=>let⟨h4,h5,h6,h7⟩:=h3 D hD;⟨h4,h5,(hi.qN D h5 h7).trans h6⟩⟩
theorem Marks.mk'{C C1:Ctx}{β:iE}{s:iw}{w:World}(hi:Inv C β s w)(hnm:C1.nm=false)(h1:C1.β=β)(h2:C1.s=s)(h3:C1.w=w){Ds:List Nat}(hn:Ds.Nodup)
 (hD:∀D∈Ds,C1.dom<=D/\w.heap[D]?=some (.deferred (some []))):Marks C1 (Ds.map yA):=
 ⟨(fun h=>by rw[hnm]at h;cases h),Ds,rfl,hn,fun D hd=>let⟨h4,h5⟩:=hD D hd;⟨h4,by rw[h3];exact(aV.1 h5).1,by rw[h3];exact h5,fun id hb=>by
  rw[h1,h2]at hb;exact hi.isCells hb h5 ⟨rfl,rfl⟩⟩⟩
theorem St.YA{C:Ctx}{β:iE}{s:iw}{w:World}:∀{ps:List Nat}{xs:List D}{vs:List Value}{env:List AV}{a:Act},St C β env s a w->AV.iP β (C.iz β s) w (xs.map .d) vs->
 St C β (pK env (ps.zip (xs.map .d))) s {a with tmps:=(ps.zip vs).foldl (fun t (p,v)=>t.setIfInBounds p v) a.tmps} w
 |[],xs,vs,env,a=>fun h _=>by simpa[pK]using h
 |p::ps,[],vs,env,a=>fun h hv=>by
  simp only[cT,AV.iP]at hv;subst hv;simpa[pK]using h
 |p::ps,x::xs,vs,env,a=>fun h hv=>by
  simp only[aO,AV.iP]at hv;obtain⟨v,r,rfl,h1,h2⟩:=hv;have:=St.YA (ps:=ps) (a:=a.put (some p) v) (h.put h1 (some p)) h2;simpa[pK,Act.put]using this
section
variable{P:Program}{k:Nat}{Q:Post}{env:List AV}{s:iw}
def G9{ι:Type}(K:Nat)(env:List AV)(S:ι->iw)(next:ι->Prop)(Q:Post):Post
 |.normal,env',s'=>∃i',next i'/\∃env'',iV K env' s' env'' (S i')
 |.ret,env',s'=>∃s'',(∃env'',iV K env' s' env'' s'')/\Q .ret env s''
 |.exit id,env',s'=>∃s'',(∃env'',iV K env' s' env'' s'')/\Q (.exit id) env s''
 |_,_,_=>False
theorem XN{g:Operand}{ps:List Nat}{x y:ir}{gf:Nat}{caps:List AV}{els:List (List D)}{ι:Type}(K:Nat)(hK:k<=K)(hfix:AV.jk (xw K) env=env)
 (hflat:x.flat=true/\y.flat=true) (hg:ev env g=.fn gf [] caps) (it:Iter P gf caps els) (hps:∀i,i<els.length->(els.getD i []).length=ps.length)
 (S:ι->iw) (pos:ι->Nat) (inv:ι->Prop) (i0:ι) (h0:inv i0) (hp0:pos i0=0) (hw:iV k env s env (S i0))
 (round:∀i,inv i->pos i<els.length->ot P K x (yS (fun env1 s1=>ot P K y (G9 K env S (fun i'=>inv i'/\pos i'=pos i+1) Q) env1 s1) fun _ _ _=>False)
  (pK env (ps.zip ((els.getD (pos i) []).map .d))) (S i))
 (done:∀i,inv i->pos i=els.length->Q .normal env (S i)):ot P k (.G8 g ps x y) Q env s:=fun C hC hf c hc β a w hst=>by
 have hpl:C.plain:=by
  rcases hf with h|h
  ·simp[ir.flat]at h
  ·exact h
 obtain⟨hro,hnm,hdom⟩:=hpl;obtain⟨ps',ca,cb,rfl,hps',hx,hy⟩:=On hc;obtain⟨β0,hst0⟩:=hw C β a w hC hst;have hF:C.oh=Fence.wide:=by unfold Ctx.oh;rw[hro];rfl
 have hgv:=hst0.ev g;rw[hg]at hgv;simp only[AV.ok,AV.iP]at hgv;obtain⟨fs,lb,hgv,hfs,hlb⟩:=hgv;have hfs:fs=#[]:=dF (by simpa using hfs);subst hfs;obtain⟨hids,henter,hit⟩:=it;have hbnd:∀{β:iE}{s:iw}{w:World},Inv C β s w->∀b o,C.iz β s b o->b<w.heap.size:=fun h b o hb=>by
  rcases hb with hb|hb
  ·exact cx (h.low b o hb).1 h.size
  ·exact h.DC hb
 let Cw:Ctx:={C with β:=β0,s:=S i0,w:=w,k:=C.k};have hCw:∀{β s w'},Inv Cw β s w'->Inv C β s w':=fun h=>hst0.inv.back h (aA _)
 have hforb:∀(C':Ctx) β s,C'.O=C.O->C'.iz β s=C.iz β s:=fun C' β s h=>by unfold Ctx.iz;rw[h]
 refine wpIn_rangeFunc fun fn hfn=>?_
 have hfr:C.oh.round=none:=hro;rw[hfr];obtain⟨rec,hrec⟩:∃rec:LoopState->Option Code->Loop,rec=fun st pe=>{state:=st,pending:=pe,fn,tmps:=a.tmps,params:=ps',assign:=ca,body:=cb,defers:=w.heap.size}:=⟨_,rfl⟩
 obtain⟨W1,hW1⟩:∃W1,(w.alloc (.deferred (some []))).alloc (.loop (rec .ready none))=W1:=⟨_,rfl⟩;have hg1:w.grownBy W1 none:=by
  rw[<-hW1];exact⟨rfl,rfl,rfl,by simp;omega,fun j hj _=>(bX _ _ _ (by simp;omega)).trans (bX w _ j hj)⟩
 have hL1:W1.heap[w.heap.size+1]?=some (.loop (rec .ready none)):=by rw[<-hW1];have:=eI (w.alloc (.deferred (some []))) (.loop (rec .ready none));rwa [World.size_alloc]at this
 have hK1:W1.heap[w.heap.size]?=some (.deferred (some [])):=by rw[<-hW1];exact(bX _ _ _ (by simp)).trans (eI w _)
 have hcall:=hit (C.iz β0 (S i0)) W1 lb (by
  have:=AV.uR (β':=fun _=>.no) (ρ:=fun _=>none) (fun i j h=>by cases h) _ _ hlb;rw[hids]at this;exact AV.jL (fun b o v hc hn=>⟨by rw[cE (hg1.block b (pH hc) (by simp))];exact hc,hn⟩) (fun _=>.refl _) _ _ this)
  (fun b o h=>cx (hbnd hst0.inv b o h) hg1.size)
 let Jn:Nat->Own->World->Prop:=fun n X W=>(∃j,inv j/\pos j=n/\∃β',X=C.iz β' (S j)/\Inv Cw β' (S j) W/\sj C β' env (S j) a W/\∀b o v,W1.cell? ⟨b,o,none⟩=some v->¬C.iz β0 (S i0) b o->W.cell? ⟨b,o,none⟩=some v/\¬X b o)/\
  W.heap[w.heap.size+1]?=some (.loop (rec .ready none))/\W.heap[w.heap.size]?=some (.deferred (some []))
 let Jx:Nat->Own->World->Prop:=fun _ _ W=>∃jump s'' β',((jump=.ret/\Q .ret env s'')\/∃id,jump=.exit id/\Q (.exit id) env s'')/\Inv Cw β' s'' W/\sj C β' env s'' a W/\
  W.heap[w.heap.size+1]?=some (.loop (rec .done (some jump)))/\W.heap[w.heap.size]?=some (.deferred (some []))
 have hsz1:W1.heap.size=w.heap.size+2:=by rw[<-hW1];simp
 have gK:∀{A B:World}{row:Option Nat}{i:Nat}{o:Obj},A.grownBy B row->(∀r,row=some r->W1.heap.size<=r)->i<w.heap.size+2->A.heap[i]?=some o->B.heap[i]?=some o:=
  fun hg hr hi h=>(hg.block _ (aV.1 h).1 (fun e=>by have:=hr _ e.symm;omega)).trans h
 have hJn:∀i X A B row,Jn i X A->A.grownBy B row->(∀r,row=some r->W1.heap.size<=r/\∃o:Obj,A.heap[r]?=some o/\Bb o)->Jn i X B:=fun i X A B row ⟨⟨j,h1,h2,β',h0,h3,h4,h7⟩,h5,h6⟩ hg hr=>
  ⟨⟨j,h1,h2,β',h0,h3.pJ hg (fun r e=>⟨by have:=(hr r e).1;show w.heap.size<=r;omega,(hr r e).2⟩),h4.pJ hg (fun r e=>(hr r e).2),fun b o v k1 k2=>⟨eE (h7 b o v k1 k2).1 hg (Ck fun r e=>(hr r e).2),(h7 b o v k1 k2).2⟩⟩,
   gK hg (fun r e=>(hr r e).1) h_ h5,gK hg (fun r e=>(hr r e).1) h_ h6⟩
 have hJx:∀i X A B row,Jx i X A->A.grownBy B row->(∀r,row=some r->W1.heap.size<=r/\∃o:Obj,A.heap[r]?=some o/\Bb o)->Jx i X B:=fun i X A B row ⟨jump,s'',β',h1,h3,h4,h5,h6⟩ hg hr=>
  ⟨jump,s'',β',h1,h3.pJ hg (fun r e=>⟨by have:=(hr r e).1;show w.heap.size<=r;omega,(hr r e).2⟩),h4.pJ hg (fun r e=>(hr r e).2),gK hg (fun r e=>(hr r e).1) h_ h5,gK hg (fun r e=>(hr r e).1) h_ h6⟩
 have own2:∀{A:World}{i:Nat}{o:Obj}(o':Obj),w.heap.size<=i->A.heap[i]?=some o->Bb o->∀r,some i=some r->Cw.w.heap.size<=r/\∃o:Obj,A.heap[r]?=some o/\Bb o:=
  fun{A i o} _ h1 h2 h3 r e=>by cases e;exact⟨h1,o,h2,h3⟩
 refine⟨w.heap.size+1,[yA w.heap.size],W1,{target:=.fn (.func gf) lb,args:=#[.func (.yield (w.heap.size+1)) #[] #[]]},W1,gf,
  #[.func (.yield (w.heap.size+1)) #[] #[]]++lb,W1,?_,?_,?_,?_,fun h=>by simp[Ctx.oh]at h,?_⟩
 ·rw[<-hW1,hrec];exact run_enterLoop_outer _ _ _ _ _
 ·simp only[resolve,hgv];simp[go_sem]
 ·exact fun _ _=>trivial
 ·simp[invoke,go_sem,henter]
 ·rw[hF];refine(hcall (w.heap.size+1) Jn Jx hJn hJx ?_
   ⟨⟨i0,h0,hp0,β0,rfl,(hst0.inv.here).pJ hg1 (fun r e=>by cases e),sj.pJ (fun i x hx=>hst0.env i x hx) hg1 (fun r e=>by cases e),fun b o v k1 k2=>⟨k1,k2⟩⟩,hL1,hK1⟩).mono ?_
  ·-- a round
   rintro i X W ev hi ⟨⟨j,hj,hpj,β1,rfl,hinv,henv,hkp⟩,hl,hk⟩ hevs;have hyv:=run_yield (P:=P) (args:=ev) hl (by
    have h1:=AV.iQ hevs;have h2:=hps i hi;rw[hrec];show ev.size=ps'.size;rw[aT,h2,<-hps']at h1;simpa using h1)
   rw[hrec]at hyv;refine⟨fn,_,ca,cb,hyv,roundIn_of_wpIn trivial ?_⟩;let C2:Ctx:={C with β:=β1,s:=S j,w:=W,k:=K,ro:=some (w.heap.size+1),dom:=0,nm:=false};have hinvC:Inv C β1 (S j) W:=hCw hinv;have hinv2:Inv C2 β1 (S j) W:=(hinvC.here (K:=K)).ro _ _;have hst2:St C2 β1 env (S j) {tmps:=a.tmps,defers:=[]} W:=⟨.nil,hinv2,hst0.len,henv⟩;have henc:AV.iP β1 (C2.iz β1 (S j)) W (((els.getD i []).map .d)) ev.toList:=by
    refine Kh (β:=fun _=>.no) ?_;rw[hforb C2 β1 (S j) rfl];exact hevs
   have hst3:=St.YA (ps:=ps) hst2 henc;have hi':=hpj▸hi;have hrnd:=round j hj hi';rw[hpj]at hrnd;have hass:=hrnd C2 rfl (.inl hflat.1) ca hx β1 _ W hst3;have hfold:(ps.zip ev.toList).foldl (fun t (p,v)=>t.setIfInBounds p v) a.tmps=(ps'.zip ev).foldl (fun t (p,v)=>t.setIfInBounds p v) a.tmps:=by rw[<-hps',<-Array.foldl_toList,Array.toList_zip]
   show ca.wpIn C2.oh 0 P _ {tmps:=(ps'.zip ev).foldl (fun t (p,v)=>t.setIfInBounds p v) a.tmps,defers:=[]} W;rw[<-hfold];refine dD hass fun e a3 W3 he=>?_
   obtain⟨C3,hx3,β3,env3,s3,hst3',hq⟩:=he;cases e with
   |normal=>
    have hq:ot P K y (G9 K env S (fun i'=>inv i'/\pos i'=pos j+1) Q) env3 s3:=by rw[hpj];exact hq
    have hI2:Inv C2 β3 s3 W3:=hx3.inv _ _ _ hst3'.inv;have keep3:∀{i:Nat}{o:Obj},W.heap[i]?=some o->Bb o->W3.heap[i]?=some o:=fun{i o} h h'=>
     (hI2.qN i (aV.1 h).1 fun id hb=>hinvC.isCells hb h h').trans h
    have hl3:=keep3 hl ⟨rfl,rfl⟩;have hk3:=keep3 hk ⟨rfl,rfl⟩;have hIw3:Inv Cw β3 s3 W3:=hinv.back (K:=K) (hI2.YG (C:={Cw with β:=β1,s:=S j,w:=W,k:=K})) (by show C.k<=K;omega);refine⟨_,run_beginRound hl3 (by rw[hrec]),?_⟩;have hg4:=eT W3 (w.heap.size+1) (.loop {rec .ready none with state:=.busy});have hr4:=own2 (A:=W3) (.loop {rec .ready none with state:=.busy}) (gq _) hl3 ⟨rfl,rfl⟩;generalize hW4:W3.putObj (w.heap.size+1) (.loop {rec .ready none with state:=.busy})=W4 at hg4⊢;have hl4:W4.heap[w.heap.size+1]?=some (.loop {rec .ready none with state:=.busy}):=by rw[<-hW4];exact World.putObj_heap_same (aV.1 hl3).1
    have hk4:W4.heap[w.heap.size]?=some (.deferred (some [])):=by rw[<-hW4];exact(dh h_).trans hk3
    have hIw4:Inv Cw β3 s3 W4:=hIw3.pJ hg4 hr4;let C4:Ctx:={C with β:=β3,s:=s3,w:=W4,k:=K,ro:=some (w.heap.size+1),dom:=0,nm:=false};have hI4:Inv C4 β3 s3 W4:=((hCw hIw4).here (K:=K)).ro _ _;have hmk4:Marks C4 a3.defers:=by
     obtain⟨Ds,h1,h2,h3⟩:=hst3'.defers.now hst3'.inv;rw[h1];refine Marks.mk' hIw4 rfl rfl rfl rfl h2 fun D hD=>⟨cW _,?_⟩
     have h4:=(h3 D hD).2.2;rw[<-hW4];refine(dh fun e=>?_).trans h4;rw[e,hl3]at h4;cases h4
    have hst4:St C4 β3 env3 s3 a3 W4:=⟨hmk4,hI4,hst3'.len,fun t x hx=>by
     have h1:=hst3'.env t x hx;rw[hx3.iz]at h1;exact AV.jY (fun b o v hc hn=>⟨eE hc hg4 (Ck fun r e=>(hr4 r e).2),hn⟩) (fun _=>.refl _) _ _ h1⟩
    have henv3:sj C2 β3 env s3 a W3:=sj.later (C:=C2) hfix hI2 henv;have henv4:sj C β3 env s3 a W4:=sj.pJ (C:=C) henv3 hg4 fun r e=>(hr4 r e).2
    have hbody:=hq C4 rfl (.inl hflat.2) cb hy β3 _ W4 hst4;refine dD hbody fun e a5 W5 he=>?_
    obtain⟨C5,hx5,β5,env5,s5,hst5,hq5⟩:=he;have fin:∀(jump:Option Code)(β6:iE)(s6:iw),Inv C4 β6 s6 W5->∃W6,(Instr.endRound (w.heap.size+1) jump).run P W5=.ok (.bool jump.isNone) W6/\
     W6.heap[w.heap.size+1]?=some (.loop (rec (if jump.isNone then .ready else .done) jump))/\W6.heap[w.heap.size]?=some (.deferred (some []))/\Inv Cw β6 s6 W6/\sj C β6 env s6 a W6/\
     (∀b o,C.iz β6 s6 b o->b<W6.heap.size)/\∀b o v,W.cell? ⟨b,o,none⟩=some v->¬C.iz β1 (S j) b o->W6.cell? ⟨b,o,none⟩=some v/\¬C.iz β6 s6 b o:=fun jump β6 s6 hI6=>by
     have keep5:∀{i:Nat}{o:Obj},W4.heap[i]?=some o->Bb o->W5.heap[i]?=some o:=fun{i o} h h'=>
      (hI6.qN i (aV.1 h).1 fun id hb=>hIw4.isCells hb h h').trans h
     have hl5:=keep5 hl4 ⟨rfl,rfl⟩;have hk5:=keep5 hk4 ⟨rfl,rfl⟩;have hrun:=run_endRound (P:=P) jump hl5;have hg6:=eT W5 (w.heap.size+1) (.loop (rec (if jump.isNone then .ready else .done) jump));have hr6:=own2 (A:=W5) (.loop (rec (if jump.isNone then .ready else .done) jump)) (gq _) hl5 ⟨rfl,rfl⟩;have hIw5:Inv Cw β6 s6 W5:=hIw4.back (K:=K) (hI6.YG (C:={Cw with β:=β3,s:=s3,w:=W4,k:=K})) (by show C.k<=K;omega);refine⟨_,by rw[hrec]at hrun⊢;exact hrun,World.putObj_heap_same (aV.1 hl5).1,(dh h_).trans hk5,hIw5.pJ hg6 hr6,?_,hbnd (hCw (hIw5.pJ hg6 hr6)),?_⟩
     ·have h5:sj C4 β6 env s6 a W5:=sj.later (C:=C4) hfix hI6 henv4;exact sj.pJ (C:=C) h5 hg6 fun r e=>(hr6 r e).2
     ·intro b o v h3 k1;have k2:=hI2.stays b o v h3 k1;have k3:W4.cell? ⟨b,o,none⟩=some v:=eE k2.1 hg4 (Ck fun r e=>(hr4 r e).2);have k4:=hI6.stays b o v k3 k2.2;exact⟨eE k4.1 hg6 (Ck fun r e=>(hr6 r e).2),k4.2⟩
    have hk5:C5.k=K:=hx5.k;cases e with
    |normal=>
     obtain⟨j',⟨hj',hpj'⟩,_,hwk⟩:=hq5;obtain⟨β6,hst6⟩:=hwk C5 β5 a5 W5 hk5 hst5;obtain⟨W6,hr,h1,h2,h3,h4,h6,h5⟩:=fin none β6 (S j') (hx5.inv _ _ _ hst6.inv);exact⟨_,_,hr,_,.inl ⟨rfl,⟨⟨j',hj',by rw[hpj',hpj],β6,rfl,h3,h4,fun b o v k1 k2=>h5 b o v (hkp b o v k1 k2).1 (hkp b o v k1 k2).2⟩,h1,h2⟩⟩,h6,h5⟩
    |ret=>
     obtain⟨s'',⟨_,hwk⟩,hQ⟩:=hq5;obtain⟨β6,hst6⟩:=hwk C5 β5 a5 W5 hk5 hst5;obtain⟨W6,hr,h1,h2,h3,h4,h6,h5⟩:=fin (some .ret) β6 s'' (hx5.inv _ _ _ hst6.inv);exact⟨_,_,hr,_,.inr ⟨rfl,.ret,s'',β6,.inl ⟨rfl,hQ⟩,h3,h4,h1,h2⟩,h6,h5⟩
    |exit id=>
     obtain⟨s'',⟨_,hwk⟩,hQ⟩:=hq5;obtain⟨β6,hst6⟩:=hwk C5 β5 a5 W5 hk5 hst5;obtain⟨W6,hr,h1,h2,h3,h4,h6,h5⟩:=fin (some (.exit id)) β6 s'' (hx5.inv _ _ _ hst6.inv);exact⟨_,_,hr,_,.inr ⟨rfl,.exit id,s'',β6,.inr ⟨id,rfl,hQ⟩,h3,h4,h1,h2⟩,h6,h5⟩
    |goto l=>exact hq5.elim
    |panic ch=>exact hq5.elim
    |outgrown=>exact hq5.elim
   |exit id=>exact hq.elim
   |goto l=>exact hq.elim
   |ret=>exact hq.elim
   |panic ch=>exact hq.elim
   |outgrown=>exact hq.elim
  ·-- behind the iterator
   have out:∀(β':iE)(s':iw)(W2:World)(st:LoopState)(pe:Option Code),st≠ .busy->Inv Cw β' s' W2->sj C β' env s' a W2->W2.heap[w.heap.size+1]?=some (.loop (rec st pe))->W2.heap[w.heap.size]?=some (.deferred (some []))->
    ∃W3,(Instr.endLoop (w.heap.size+1)).run P W2=.ok pe W3/\∃C',Ext C C'/\St C' β' env s' {a with defers:=[yA w.heap.size]++a.defers} W3:=fun β' s' W2 st pe hst hI hE hl hk=>by
    have hrun:=run_endLoop (P:=P) hl (by rw[hrec];exact hst);have hg3:=eT W2 (w.heap.size+1) (.loop {rec st pe with state:=.exhausted});have hr3:=own2 (A:=W2) (.loop {rec st pe with state:=.exhausted}) (gq _) hl ⟨rfl,rfl⟩;have hI3:Inv Cw β' s' (W2.putObj (w.heap.size+1) (.loop {rec st pe with state:=.exhausted})):=hI.pJ hg3 hr3;have hE3:sj C β' env s' a (W2.putObj (w.heap.size+1) (.loop {rec st pe with state:=.exhausted})):=sj.pJ (C:=C) hE hg3 fun r e=>(hr3 r e).2
    have hk3:(W2.putObj (w.heap.size+1) (.loop {rec st pe with state:=.exhausted})).heap[w.heap.size]?=some (.deferred (some [])):=(dh h_).trans hk;have hpe:(rec st pe).pending=pe:=by rw[hrec]
    generalize W2.putObj (w.heap.size+1) (.loop {rec st pe with state:=.exhausted})=W3 at hrun hI3 hE3 hk3;rw[hpe]at hrun;refine⟨W3,hrun,?_⟩;have hIC:Inv C β' s' W3:=hCw hI3;refine⟨{C with β:=β',s:=s',w:=W3,k:=C.k},⟨hIC.size,rfl,rfl,rfl,rfl,rfl,fun β s w h=>hIC.back h (aA _)⟩,?_,hIC.here,hst0.len,hE3⟩;obtain⟨Ds,h1,h2,h3⟩:=hst0.defers.now hIC;have hsz:=hst0.inv.size;show Marks _ (yA w.heap.size::a.defers);rw[h1,<-aO];refine Marks.mk' (C1:={C with β:=β',s:=s',w:=W3,k:=C.k}) hIC hnm rfl rfl rfl (cz.2 ⟨fun hm=>?_,h2⟩) fun D hD=>?_
    ·have:=(h3 _ hm).2.1;omega
    ·rcases bu.1 hD with rfl|hD
     ·exact⟨by show C.dom<=w.heap.size;omega,hk3⟩
     ·exact⟨(h3 D hD).1,(h3 D hD).2.2⟩
   rintro e W2 ⟨⟨v,rfl⟩,(⟨X,⟨j,hj,hpj,β',_,hI,hE,_⟩,hl,hk⟩|⟨m,X,_,jump,s'',β',hQ,hI,hE,hl,hk⟩)⟩
   ·obtain⟨W3,hr,C',hxt,hst'⟩:=out β' (S j) W2 .ready none (by simp) hI hE hl hk;exact⟨none,W3,hr,C',hxt,β',env,S j,hst',done j hj hpj⟩
   ·obtain⟨W3,hr,C',hxt,hst'⟩:=out β' s'' W2 .done (some jump) (by simp) hI hE hl hk;refine⟨some jump,W3,hr,?_⟩;rcases hQ with⟨rfl,hQ⟩|⟨id,rfl,hQ⟩
    ·exact wpIn_ret ⟨C',hxt,β',env,s'',hst',hQ⟩
    ·exact wpIn_exit ⟨C',hxt,β',env,s'',hst',hQ⟩
theorem U8{σ β:Type}{f:Nat×σ->Option ((Nat×σ)⊕β)}{s0:σ}{b:β}(hb:iB f (0,s0)=some b){g:Operand}{ps:List Nat}{x y:ir}{gf:Nat}{caps:List AV}{els:List (List D)}(K:Nat)
 (hK:k<=K) (hfix:AV.jk (xw K) env=env) (hflat:x.flat=true/\y.flat=true) (hg:ev env g=.fn gf [] caps) (it:Iter P gf caps els) (hps:∀i,i<els.length->(els.getD i []).length=ps.length)
 (S:σ->iw) (hw:iV k env s env (S s0))
 (round:∀j p t,j<els.length->f (j,p)=some t->(∀b',t=.inr b'->b'=b)->
  ot P K x (yS (fun env1 s1=>ot P K y (G9 K env S (fun p'=>t=.inl (j+1,p')) Q) env1 s1) fun _ _ _=>False) (pK env (ps.zip ((els.getD j []).map .d))) (S p))
 (done:∀p t,f (els.length,p)=some t->(∀b',t=.inr b'->b'=b)->Q .normal env (S p)):ot P k (.G8 g ps x y) Q env s:=by
 obtain⟨n,hn⟩:=qz hb;refine XN (ι:=Nat×Nat×σ) K hK hfix hflat hg it hps (fun p=>S p.2.2) (fun p=>p.2.1) (fun p=>tC f p.1 p.2 b/\p.2.1<=els.length) (n,0,s0) ⟨hn,cW _⟩ rfl hw ?_ ?_
 ·rintro⟨m,j,p⟩ ⟨hm,_⟩ hj;cases m with
  |zero=>exact hm.elim
  |succ m=>
   have cv:∀t:(Nat×σ)⊕β,(∀p',t=.inl (j+1,p')->tC f m (j+1,p') b)->∀e env' s',G9 K env S (fun p'=>t=.inl (j+1,p')) Q e env' s'->
    G9 K env (fun p:Nat×Nat×σ=>S p.2.2) (fun i'=>(tC f i'.1 i'.2 b/\i'.2.1<=els.length)/\i'.2.1=j+1) Q e env' s':=fun t ht e env' s' hq=>by
    cases e with
    |normal=>obtain⟨p',hp,hw⟩:=hq;exact⟨(m,j+1,p'),⟨⟨ht p' hp,hj⟩,rfl⟩,hw⟩
    |_=>exact hq
   rcases hm with hm|⟨p',hm,hr⟩
   ·refine(round j p _ hj hm fun b' hb'=>by cases hb';rfl).mono fun e env' s' hq=>?_
    cases e with
    |normal=>exact ot.mono hq (cv _ fun p' hp=>by cases hp)
    |_=>exact hq
   ·refine(round j p _ hj hm fun b' hb'=>by cases hb').mono fun e env' s' hq=>?_
    cases e with
    |normal=>exact ot.mono hq (cv _ fun p'' hp=>by cases hp;exact hr)
    |_=>exact hq
 ·rintro⟨m,j,p⟩ ⟨hm,_⟩ hj;simp only at hj;subst hj;cases m with
  |zero=>exact hm.elim
  |succ m=>
   rcases hm with hm|⟨p',hm,hr⟩
   ·exact done p _ hm fun b' hb'=>by cases hb';rfl
   ·exact done p _ hm fun b' hb'=>by cases hb'
theorem Vs{ι:Type}{K:Nat}{env env':List AV}{s':iw}{S:ι->iw}{next:ι->Prop}:G9 K env S next Q .normal env' s'=∃i',next i'/\∃env'',iV K env' s' env'' (S i'):=(rfl)
end
attribute [go_sem] Vs
def zk(O:Own)(W:World):Ctx:={O:=O,β:=fun _=>.no,s:=[],w:=W,k:=0,nm:=true}
theorem zk.inv{O:Own}{W:World}(hO:∀b o,O b o->b<W.heap.size):Inv (zk O W) (fun _=>.no) [] W:=
 ⟨aA _,rfl,fun _ _ _ h _=>h,fun _ _ _=>rfl,fun _ _ h=>.inl h,fun id b h=>.inl ⟨id,h⟩,fun _ h=>absurd h (gr _),fun b o h=>⟨hO b o h,fun⟨_,h⟩=>h⟩,fun _=>rfl,fun _ _ _ h=>h.elim⟩
theorem zk.grown{O:Own}{β:iE}{s:iw}{W W':World}(h:Inv (zk O W) β s W'):W.grownBy W' none:=by
 have hio:=h.io;simp only[zC,dX]at hio;exact⟨hio.1,hio.2.2,hio.2.1,h.size,fun k hk _=>h.qN k hk fun id hb=>hb⟩
theorem St.again{O X:Own}{W W' W2:World}{C':Ctx}{β:iE}{env:List AV}{a:Act}(hx:Ext (zk O W) C')(h:St C' β env [] a W')(hid:AV.jk (fun _=>none) env=env)
 (hX:∀b o,X b o->b<W2.heap.size) (hk:∀b o v,W'.cell? ⟨b,o,none⟩=some v->¬O b o->W2.cell? ⟨b,o,none⟩=some v/\¬X b o):St (zk X W2) (fun _=>.no) env [] a W2 where
 defers:=by rw[h.defers.1 hx.nm];exact .nil
 inv:=zk.inv hX
 len:=h.len
 env:=fun i x hx'=>by
  have h1:=AV.uB (β':=fun _=>.no) (ρ:=fun _=>none) (fun i j h=>by cases h) x _ (h.env i x hx');have h2:x.lq (fun _=>none)=x:=by
   have h3:(AV.jk (fun _=>none) env)[i]?=(env[i]?).map (AV.lq fun _=>none):=rI _ _ _;rw[hid,hx']at h3;simpa using h3.symm
  rw[h2]at h1;refine AV.jY (fun b o v hc hn=>?_) (fun _=>.refl _) _ _ h1;have h4:=hk b o v hc fun hO=>hn (.inl (by rw[hx.O];exact hO))
  refine⟨h4.1,?_⟩;rintro(h|⟨i,h⟩)
  ·exact h4.2 h
  ·exact h
theorem Q0{P:Program}{c:Code}{mc:ir}{env:List AV}{G:Exit->List AV->Prop}(hc:mT P c=some mc.erase)(hf:mc.flat=true)
 (h:ot P 0 mc (fun e env' s'=>∃env1,iV 0 env' s' env1 []/\AV.jk (fun _=>none) env1=env1/\G e env1) env []) {a:Act} {W:World} {O:Own} (hst:St (zk O W) (fun _=>.no) env [] a W):
 c.wpIn Fence.wide 0 P (fun e a' W'=>W.grownBy W' none/\∃env1,St (zk O W') (fun _=>.no) env1 [] a' W'/\G e env1) a W:=
 dD (h (zk O W) rfl (.inl hf) c hc _ a W hst) fun e a' W' ⟨C',hx,β',env',s',h1,env1,hw,hid,hG⟩=>by
  obtain⟨β2,h2⟩:=hw C' β' a' W' hx.k h1;have hg:=zk.grown (hx.inv _ _ _ h1.inv);exact⟨hg,env1,h2.again hx hid (fun b o h=>cx (hst.inv.low b o h).1 hg.size) (fun b o v h h'=>⟨h,h'⟩),hG⟩
theorem DW{P:Program}{C:Ctx}{ops:Array Oper}{K0:List AV->iw->Prop}{Q:Exit->Act->World->Prop}{m:Nat}:∀(n i:Nat)(ms:List iO)(env:List AV)(s:iw),i+(n+m)=ops.size->
 ((ops.toList.drop i).take n).mapM (pU P ops)=some (ms.map iO.erase)->vA P C.k ms env s K0->∀(β:iE)(a:Act)(w:World),St C β env s a w->
 (∀β' env' s' a' w',St C β' env' s' a' w'->K0 env' s'->wpOpsIn C.oh 0 P ops Q (List.range' (i+n) m) a' w')->wpOpsIn C.oh 0 P ops Q (List.range' i (n+m)) a w
 |0,i,ms,env,s=>fun hi hm hk β a w hst hK=>by
  simp at hm;subst hm;rw[ck];exact hK β env s a w hst hk
 |n+1,i,ms,env,s=>fun hi hm hk β a w hst hK=>by
  have hlt:i<ops.toList.length:=by simp;omega
  rw[aE hlt,dg]at hm;simp only[cq,cm,aq]at hm;obtain⟨m0,h1,ms0,h2,h3⟩:=hm;cases ms with
  |nil=>cases h3
  |cons m1 ms'=>
  simp only[aO,dL,aL,bV]at h3;obtain⟨rfl,rfl⟩:=h3;rw[show n+1+m=(n+m)+1 by omega,dV];simp only[wpOpsIn];have ho:ops[i]?=some ops.toList[i]:=by simp at hlt;simp[hlt]
  rw[ho];simp only;refine ue (K:=fun env s=>vA P C.k ms' env s K0) h1 ?_ hst fun β' env' s' a' w' h4 h5=>DW n (i+1) ms' env' s' h_ h2 h5 β' a' w' h4 fun β'' env'' s'' a'' w'' h6 h7=>?_
  ·simpa only[vA]using hk
  ·have:=hK β'' env'' s'' a'' w'' h6 h7;rwa [show i+(n+1)=i+1+n by omega]at this
structure Y7(P:Program)(els:List (List D))(l:Nat)(J Jx:Nat->Own->World->Prop):Prop where
 jn:∀i X A B,J i X A->A.grownBy B none->J i X B
 jx:∀i X A B,Jx i X A->A.grownBy B none->Jx i X B
 round:∀i X W1 (vs:Array Value),i<els.length->J i X W1->AV.iP (fun _=>.no) X W1 ((els.getD i []).map .d) vs.toList->YieldAt Fence.wide 0 P l vs W1 fun e W'=>∃X',
  ((e=.returned (.bool true)/\J (i+1) X' W')\/(e=.returned (.bool false)/\Jx (i+1) X' W'))/\(∀b o,X' b o->b<W'.heap.size)/\
  ∀b o v,W1.cell? ⟨b,o,none⟩=some v->¬X b o->W'.cell? ⟨b,o,none⟩=some v/\¬X' b o
def Live(els:List (List D))(J Jx:Nat->Own->World->Prop)(n:Nat)(X:Own)(W:World):Option (List (List D))->Prop
 |some r=>n<=els.length/\els.drop n=r/\J n X W
 |none=>∃m,m<els.length/\Jx (m+1) X W
theorem Live.grow{P:Program}{els:List (List D)}{l:Nat}{J Jx:Nat->Own->World->Prop}(h:Y7 P els l J Jx){n:Nat}{X:Own}{W W':World}{r:Option (List (List D))}(hl:Live els J Jx n X W r)(hg:W.grownBy W' none):Live els J Jx n X W' r:=by
 cases r with
 |some r=>obtain⟨h1,h2,h3⟩:=hl;exact⟨h1,h2,h.jn _ _ _ _ h3 hg⟩
 |none=>obtain⟨m,h1,h2⟩:=hl;exact⟨m,h1,h.jx _ _ _ _ h2 hg⟩
abbrev uJ:=Exit->List AV->Option (List (List D))->Prop
def D7(P:Program)(l:Nat)(mc:ir)(Q:uJ)(env:List AV)(r:Option (List (List D))):Prop:=
 ∀c,mT P c=some mc.erase->∀(els:List (List D))(J Jx:Nat->Own->World->Prop),Y7 P els l J Jx->∀(n:Nat)(X:Own)(a:Act)(W:World),St (zk X W) (fun _=>.no) env [] a W->Live els J Jx n X W r->
  c.wpIn Fence.wide 0 P (fun e a' W'=>∃n' X' env' r',St (zk X' W') (fun _=>.no) env' [] a' W'/\Live els J Jx n' X' W' r'/\Q e env' r') a W
theorem nG{P:Program}{l:Nat}{mc:ir}{Q:uJ}{env:List AV}{r:Option (List (List D))}(hf:mc.flat=true)
 (h:ot P 0 mc (fun e env' s'=>∃env1,iV 0 env' s' env1 []/\AV.jk (fun _=>none) env1=env1/\Q e env1 r) env []):D7 P l mc Q env r:=
 fun c hc els J Jx hJ n X a W hst hl=>dD (Q0 hc hf h hst) fun _ _ _ ⟨hg,env1,h1,h2⟩=>⟨n,X,env1,r,h1,hl.grow hJ hg,h2⟩
def Z2(P:Program)(l:Nat)(y:ir)(Q:uJ):uJ
 |.normal,env,r=>D7 P l y Q env r
 |e,env,r=>Q e env r
theorem qX{P:Program}{l:Nat}{x y:ir}{Q:uJ}{env:List AV}{r:Option (List (List D))}(h:D7 P l x (Z2 P l y Q) env r):D7 P l (.seq x y) Q env r:=
 fun c hc els J Jx hJ n X a W hst hl=>by
  obtain⟨c1,c2,rfl,h1,h2⟩:=GU (x:=x.erase) (y:=y.erase) hc;refine wpIn_seq (dD (h c1 h1 els J Jx hJ n X a W hst hl) fun e a' W' ⟨n',X',env',r',k1,k2,k3⟩=>?_);cases e with
  |normal=>exact k3 c2 h2 els J Jx hJ n' X' a' W' k1 k2
  |exit id=>exact⟨n',X',env',r',k1,k2,k3⟩
  |goto l=>exact⟨n',X',env',r',k1,k2,k3⟩
  |ret=>exact⟨n',X',env',r',k1,k2,k3⟩
  |panic ch=>exact⟨n',X',env',r',k1,k2,k3⟩
  |outgrown=>exact⟨n',X',env',r',k1,k2,k3⟩
def XC(id:Nat)(Q:uJ):uJ
 |.exit id',env,r=>if id'=id then Q .normal env r else Q (.exit id') env r
 |e,env,r=>Q e env r
theorem zc{P:Program}{l id:Nat}{x:ir}{Q:uJ}{env:List AV}{r:Option (List (List D))}(h:D7 P l x (XC id Q) env r):D7 P l (.block id x) Q env r:=
 fun c hc els J Jx hJ n X a W hst hl=>by
  obtain⟨c1,rfl,h1⟩:=Dw (x:=x.erase) hc;refine wpIn_block (dD (h c1 h1 els J Jx hJ n X a W hst hl) fun e a' W' ⟨n',X',env',r',k1,k2,k3⟩=>?_);cases e with
  |exit id'=>
   simp only[XC]at k3;simp only[Exit.inBlock];split<;>rename_i hid<;>simp only[hid,aC,aB]at k3<;>exact⟨n',X',env',r',k1,k2,k3⟩
  |normal=>exact⟨n',X',env',r',k1,k2,k3⟩
  |goto l=>exact⟨n',X',env',r',k1,k2,k3⟩
  |ret=>exact⟨n',X',env',r',k1,k2,k3⟩
  |panic ch=>exact⟨n',X',env',r',k1,k2,k3⟩
  |outgrown=>exact⟨n',X',env',r',k1,k2,k3⟩
theorem N3{P:Program}{l:Nat}{x:ir}{Q:uJ}{env env1:List AV}{r:Option (List (List D))}(hw:iV 0 env [] env1 [])(hid:AV.jk (fun _=>none) env1=env1)(h:D7 P l x Q env1 r):D7 P l x Q env r:=
 fun c hc els J Jx hJ n X a W hst hl=>by
  obtain⟨β',hst'⟩:=hw (zk X W) _ a W rfl hst;exact h c hc els J Jx hJ n X a W (hst'.again (Ext.refl _) hid (fun b o h=>(hst.inv.low b o h).1) fun b o v h h'=>⟨h,h'⟩) hl
def SP{ι:Type}(E:ι->List AV)(R:ι->Option (List (List D)))(inv:ι->Prop)(Q:uJ):uJ
 |.normal,env,r=>∃i',inv i'/\iV 0 env [] (E i') []/\r=R i'
 |e,env,r=>Q e env r
theorem IA{P:Program}{l:Nat}{x:ir}{Q:uJ}{env:List AV}{ι:Type}(E:ι->List AV)(R:ι->Option (List (List D)))(inv:ι->Prop)(μ:ι->Nat)(i0:ι)(h0:inv i0)(hw:iV 0 env [] (E i0) [])(hid:∀i,AV.jk (fun _=>none) (E i)=E i)
 (round:∀i,inv i->D7 P l x (SP E R (fun i'=>inv i'/\μ i'<μ i) Q) (E i) (R i)):D7 P l (.loop x) Q env (R i0):=by
 refine N3 hw (hid i0) fun c hc els J Jx hJ n X a W hst hl=>?_
 obtain⟨c1,rfl,h1⟩:=EG (x:=x.erase) hc;intro b kk cs hro hb hr;have key:∀m i n X a W,μ i=m->inv i->St (zk X W) (fun _=>.no) (E i) [] a W->Live els J Jx n X W (R i)->
  ∃e a' W',(∃n' X' env' r',St (zk X' W') (fun _=>.no) env' [] a' W'/\Live els J Jx n' X' W' r'/\Q e env' r')/\ArrivesIn (Machine.fenced P Fence.wide) P (lone (b.atR a (.code c1:: .inLoop c1::kk)) cs W) b kk cs e a' W':=by
  intro m;induction m using Nat.strongRecOn with
  |_ m ih=>
   intro i n X a W hn hi hst hl;obtain⟨e,a₁,w₁,hq,harr⟩:=round i hi c1 h1 els J Jx hJ n X a W hst hl b (.inLoop c1::kk) cs hro hb hr;obtain⟨n',X',env',r',k1,k2,hq⟩:=hq;cases e with
   |normal=>
    obtain⟨i',⟨hi',hlt⟩,hwk,rfl⟩:=hq;obtain⟨β2,hst2⟩:=hwk (zk X' w₁) _ a₁ w₁ rfl k1;have hst3:=hst2.again (Ext.refl _) (hid i') (fun b o h=>(k1.inv.low b o h).1) fun b o v h h'=>⟨h,h'⟩
    obtain⟨e₂,a₂,w₂,hq₂,harr₂⟩:=ih (μ i') (hn▸hlt) i' n' X' a₁ w₁ rfl hi' hst3 k2;exact⟨e₂,a₂,w₂,hq₂,.of_steps (StepsIn.trans harr (.one (fe hb hr rfl) stepR_inLoop)) harr₂⟩
   |exit id=>exact⟨_,a₁,w₁,⟨n',X',env',r',k1,k2,hq⟩,.pass (x:=.inLoop c1) rfl (fun _ _=>.inl (by simp)) harr⟩
   |goto l=>exact⟨_,a₁,w₁,⟨n',X',env',r',k1,k2,hq⟩,.pass (x:=.inLoop c1) rfl (fun _ _=>.inl (by simp)) harr⟩
   |ret=>exact⟨_,a₁,w₁,⟨n',X',env',r',k1,k2,hq⟩,.pass (x:=.inLoop c1) rfl (fun _ _=>.inl (by simp)) harr⟩
   |panic ch=>exact⟨_,a₁,w₁,⟨n',X',env',r',k1,k2,hq⟩,.pass (x:=.inLoop c1) rfl (fun _ _=>.inl (by simp)) harr⟩
   |outgrown=>exact⟨_,a₁,w₁,⟨n',X',env',r',k1,k2,hq⟩,.pass (x:=.inLoop c1) rfl (fun _ _=>.inl (by simp)) harr⟩
 obtain⟨e,a',W',hq,harr⟩:=key _ i0 n X a W rfl h0 hst hl;exact⟨e,a',W',hq,.of_steps (.one (fe hb hr rfl) stepR_loop) harr⟩
theorem Mg{P:Program}{o:Oper}{c:Call}{ρ:Operand->Value}{w:World}{l:Nat}(hop:o.op=.call c){g:Operand}(hc:c.callee=.value g)(hg:ρ g=.func (.yield l) #[] #[]):
 (execOp ρ o).run P w=(Instr.yield l (c.args.map ρ)).run P w:=by
 simp[execOp,hop,resolve,hc,hg,Deferred.ofValue,invoke]
theorem Ih{P:Program}{o:Oper}{g:Operand}{xs:List Operand}(h:kM P o=some (.qW g xs)):∃c,o.op=.call c/\c.callee=.value g/\c.args.toList=xs:=by
 unfold kM at h
 repeat' split at h
 all_goals first
  |(cases h;done)
  |(simp[aq,ay]at h;done)
  |(simp only[aL,sH.qW.injEq]at h;obtain⟨rfl,rfl⟩:=h;exact⟨_,by assumption,by assumption,rfl⟩)
theorem BG{α β:Type}{f:α->Option β}:∀{xs:List α}{ys:List β}(n:Nat),xs.mapM f=some ys->(xs.take n).mapM f=some (ys.take n)/\(xs.drop n).mapM f=some (ys.drop n)
 |xs,ys,0,h=>by simpa using h
 |[],ys,n+1,h=>by simp at h;subst h;simp
 |x::xs,ys,n+1,h=>by
  simp only[cq,cm,dL,aq]at h;obtain⟨y,h1,r,h2,h3⟩:=h;cases h3;obtain⟨k1,k2⟩:=BG n h2;refine⟨?_,by simpa using k2⟩;simp only[dg,cq,cm,dL,h1,k1,aa]
theorem zk.iz{X:Own}{W:World}:(zk X W).iz (fun _=>.no) []=X:=by funext b o;exact propext ⟨fun h=>h.elim id fun⟨_,h⟩=>h.elim,fun h=>.inl h⟩
theorem Q4{P:Program}{gf nt:Nat}{caps:List AV}{els:List (List D)}{mc:ir}(h:kS P gf mc nt [])(hen:enters P gf=true)(hcaps:AV.jk (fun _=>none) caps=caps)
 (hmc:∀l,D7 P l mc (fun e env' r=>(e=.normal\/e=.ret)/\(r=some []\/r=none)) ([.d (.lit (.func (.yield l) #[] #[]))]++caps++List.replicate (nt-(1+caps.length)) .iG) (some els)):Iter P gf caps els:=by
 refine⟨hcaps,ym hen,fun O W lb hlb hO l J Jx hJ hJx hround hJ0=>?_⟩;obtain⟨fn,hf,hb,hnt,hres⟩:=h.fn;rw[aq]at hb;obtain⟨c,hbody,hm⟩:=hb;have hIt:Y7 P els l J Jx:=⟨fun i X A B h hg=>hJ i X A B none h hg fun r e=>(by cases e),fun i X A B h hg=>hJx i X A B none h hg fun r e=>(by cases e),hround⟩;have hlen:=AV.iQ hlb;refine callsIn_of_wp hf hbody trivial ?_;have hst0:St (zk O W) (fun _=>.no) ([.d (.lit (.func (.yield l) #[] #[]))]++caps++List.replicate (nt-(1+caps.length)) .iG) []
  {tmps:=(#[.func (.yield l) #[] #[]]++lb)++Array.replicate (fn.ntmps-(#[.func (.yield l) #[] #[]]++lb:Array Value).size) undef,defers:=[]} W:=by
  rw[hnt];have hsz:lb.size=caps.length:=by simpa using hlen
  refine⟨.nil,zk.inv hO,by simp[hsz];omega,fun i x hx=>?_⟩;rw[zk.iz];rcases i with _|i
  ·simp at hx;subst hx;simp[AV.ok,D.ok,one,fE]
  ·rw[eC]at hx;split at hx
   ·rename_i hi;simp at hi hx;have hi2:i<lb.size:=by omega
    have h1:((#[Value.func (.yield l) #[] #[]]++lb)++Array.replicate (nt-(#[Value.func (.yield l) #[] #[]]++lb:Array Value).size) undef).getD (i+1) undef=lb[i]:=by
     rw[bU,Array.getElem?_append_left (by simp;omega),Array.getElem?_append_right (by simp)];simp[hi2]
    show AV.ok _ _ _ _ (Array.getD _ (i+1) undef);rw[h1];exact(AV.jI.1 hlb).2 i x _ hx (by simp[hi2])
   ·have:x=.iG:=by
     rw[cP]at hx;split at hx
     ·cases hx;rfl
     ·cases hx
    subst this;simp[AV.ok]
 refine dD (hmc l c hm els J Jx hIt 0 O _ W hst0 ⟨cW _,rfl,hJ0⟩) fun e a' W' ⟨n',X',env',r',k1,k2,k3,k4⟩=>?_
 have hR:(∃X,J els.length X W')\/∃m X,m<els.length/\Jx (m+1) X W':=by
  rcases k4 with rfl|rfl
  ·obtain⟨h1,h2,h3⟩:=k2;have:n'=els.length:=by
    have:=bS List.length h2;simp at this;omega
   subst this;exact .inl ⟨X',h3⟩
  ·obtain⟨m,h1,h2⟩:=k2;exact .inr ⟨m,X',h1,h2⟩
 have fin:a'.defers=[]/\∃v,(results fn a'.tmps).run P W'=.ok v W'/\((∃v',Ending.returned v=Ending.returned v')/\((∃X,J els.length X W')\/∃m X,m<els.length/\Jx (m+1) X W')):=by
  refine⟨k1.defers.1 rfl,.tuple #[],?_,⟨_,rfl⟩,hR⟩;have hr0:fn.results.toList=[]:=by
   cases hq:fn.results.toList with
   |nil=>rfl
   |cons x r=>rw[hq]at hres;simp[cq,aq]at hres
  rw[Ag,dW,hr0];rfl
 rcases k3 with rfl|rfl
 ·exact fin
 ·exact fin
theorem N2{P:Program}{l:Nat}{mc:ir}{Q:uJ}{env:List AV}{r:Option (List (List D))}{p:Prop}(hp:∀X a W,St (zk X W) (fun _=>.no) env [] a W->p)(h:p->D7 P l mc Q env r):D7 P l mc Q env r:=
 fun c hc els J Jx hJ n X a W hst hl=>h (hp X a W hst) c hc els J Jx hJ n X a W hst hl
theorem OJ{X:Own}{a:Act}{W:World}{env:List AV}{i e:Nat}{ds:List D}{nl:Option Bool}{cs1 cs2:List D}(hst:St (zk X W) (fun _=>.no) env [] a W)(h:env[i]?=some (.pv (cs1++ .sl e nl ds::cs2))):ds.length<2^63:=by
 have:=hst.env i _ h;simp only[AV.ok]at this;obtain⟨b,o,vs,_,_,h2⟩:=this;have h3:=(D.jI.1 h2).2 cs1.length (.sl e nl ds) (vs.getD cs1.length undef) (by simp) (by
  have hl:=D.iQ h2;have:cs1.length<vs.length:=by rw[hl];simp
  simp[List.getD_eq_getElem?_getD,az this])
 simp only[D.ok]at h3;obtain⟨_,a2,cap,_,h4,_⟩:=h3;exact Nat.lt_of_le_of_lt h4.1 h4.2
section
attribute [local irreducible] uh wo vz mL mC ot kQ Be Cb zM Ca zD uj mu og BY iY lg D7
end
section
attribute [local irreducible] uh wo vz mL mC ot kQ Be Cb zM Ca zD uj mu og BY iY lg
end
def TL(nid:Nat)(x y:AV):Prop:=∀(β:iE)(O:Own)(w:World)(v:Value),β nid=.tok tJ 0->AV.ok β O w x v->AV.ok β O w y v
def PE(nid:Nat)(xs ys:List AV):Prop:=∀(β:iE)(O:Own)(w:World)(vs:List Value),β nid=.tok tJ 0->AV.iP β O w xs vs->AV.iP β O w ys vs
theorem TL.refl{nid:Nat}{x:AV}:TL nid x x:=fun _ _ _ _ _ h=>h
theorem PE.nil{nid:Nat}:PE nid [] []:=fun _ _ _ _ _ h=>h
theorem PE.cons{nid:Nat}{x y:AV}{xs ys:List AV}(h:TL nid x y)(hs:PE nid xs ys):PE nid (x::xs) (y::ys):=fun β O w vs hb hv=>by
 simp only[AV.iP]at hv⊢;obtain⟨v,r,h1,h2,h3⟩:=hv;exact⟨v,r,h1,h β O w v hb h2,hs β O w r hb h3⟩
theorem TL.nil{nid e e0:Nat}:TL nid (.d (.sl e0 (some true) [])) (.mX e nid 0):=fun β O w v hb hv=>by
 simp only[AV.ok]at hv⊢;have:=Dz hv;subst this;exact⟨_,_,by rw[hb];exact⟨rfl,rfl⟩,aA _,fun _=>rfl,.inl ⟨none,rfl,trivial⟩⟩
theorem TL.mB{nid:Nat}{xs ys:List AV}(h:PE nid xs ys):TL nid (.mB xs) (.mB ys):=fun β O w v hb hv=>by
 simp only[AV.ok]at hv⊢;obtain⟨vs,h1,h2⟩:=hv;exact⟨vs,h1,h β O w _ hb h2⟩
theorem TL.agg{nid:Nat}{xs ys:List AV}(h:PE nid xs ys):TL nid (.agg xs) (.agg ys):=fun β O w v hb hv=>by
 simp only[AV.ok]at hv⊢;obtain⟨vs,h1,h0,h2⟩:=hv;exact⟨vs,h1,h0,h β O w _ hb h2⟩
theorem Ep{O:Own}{w:World}:∀{xs:List D}{vs:List Value},D.iP O w xs vs->∀u∈vs,one u=true
 |[],vs,h=>by simp[D.iP]at h;subst h;simp
 |x::xs,vs,h=>by
  simp only[D.iP]at h;obtain⟨v,r,rfl,h1,_,h3⟩:=h;intro u hu;rcases bu.1 hu with rfl|hu
  ·exact h1
  ·exact Ep h3 u hu
theorem TL.Y9{nid:Nat}{ds:List D}{ys:List AV}(h:PE nid (ds.map .d) ys):TL nid (.d (.agg ds)) (.agg ys):=fun β O w v hb hv=>by
 simp only[AV.ok,D.ok]at hv⊢;obtain⟨vs,h1,h2⟩:=hv;exact⟨vs,h1,Ep h2,h β O w _ hb (Gg h2)⟩
theorem jA.YR{k:Nat}{x:AV}{s:iw}(nid t e:Nat)(y:AV)(hd:sat s nid=.dead)(hxy:TL nid x y):jA k x s y (sset (sset s nid (.tok t e 0)) nid (.kU t e 0 [])):=fun C β w v hC hi hx=>by
 have hst:St C β [] s {tmps:=#[],defers:=[]} w:=⟨.nil,hi,rfl,fun i x hx=>by simp at hx⟩;obtain⟨h1,m⟩:=hst.DT (id:=nid) (t:=t) (e:=e) hd;obtain⟨h2,hf⟩:=h1.inv.YU (id:=nid) (by rw[kB,ah rfl]);exact⟨_,h2,by rw[hf];exact hxy _ _ _ _ (by simp[iA]) (m.ok hx)⟩
def sq:Nat->List sH->List iO
 |_,[]=>[]
 |n,x::xs=>⟨some n,x,none⟩::sq (n+1) xs
def sg(g:Nat)(b:Bool):Nat->List sH->List iO
 |_,[]=>[]
 |n,x::xs=>⟨some n,x,some (some g,b)⟩::sg g b (n+1) xs
def s0(x:sH):List iO:=[⟨none,x,none⟩]
def t0(n:Nat):Operand:=.tmp n
def i0(n:Int):Operand:=.const (.int .i64 n)
def V5:List Nat->List Operand
 |[]=>[]
 |n::ns=>.tmp n::V5 ns
def mv(n:Nat):sH:=.mv (.tmp n)
def mi(n:Int):sH:=.mv (.const (.int .i64 n))
def mb(b:Bool):sH:=.mv (.const (.bool b))
def ld(n:Nat):sH:=.load 1 false (.tmp n)
def la(e n:Nat):sH:=.load e true (.tmp n)
def fa(o n:Nat):sH:=.P0 o (.tmp n)
def cf(f:Nat)(ns:List Nat):sH:=.ke f (V5 ns)
def pa(a b:Nat):sH:=.pick (.tmp a) (.tmp b) (.const (.bool false))
def po(a b:Nat):sH:=.pick (.tmp a) (.const (.bool true)) (.tmp b)
def bn(o:BinOp)(a b:Nat):sH:=.bin o (.tmp a) (.tmp b)
def bi(o:BinOp)(a:Nat)(n:Int):sH:=.bin o (.tmp a) (.const (.int .i64 n))
def nt(n:Nat):sH:=.un .not (.tmp n)
def ln(n:Nat):sH:=.len (.tmp n)
def ex(n i:Nat):sH:=.ext (.tmp n) i
def ix(e a b:Nat):sH:=.tG e (.tmp a) (.tmp b)
def bo(d t n:Nat):sH:=.box d t (.tmp n)
def ap(d t e b x y:Nat):sH:=.app d t e b (.tmp x) (.tmp y)
def sr(n a b:Nat):sH:=.store n (.tmp a) (.tmp b)
theorem aao{n:Nat}:sq n []=[]:=(rfl)
theorem aan{n:Nat}{x:sH}{xs:List sH}:sq n (x::xs)=⟨some n,x,none⟩::sq (n+1) xs:=(rfl)
theorem aam{g:Nat}{b:Bool}{n:Nat}:sg g b n []=[]:=(rfl)
theorem aal{g:Nat}{b:Bool}{n:Nat}{x:sH}{xs:List sH}:sg g b n (x::xs)=⟨some n,x,some (some g,b)⟩::sg g b (n+1) xs:=(rfl)
theorem aak{x:sH}:s0 x=[⟨none,x,none⟩]:=(rfl)
theorem aar{n:Nat}:t0 n=.tmp n:=(rfl)
theorem Z0{n:Int}:i0 n=.const (.int .i64 n):=(rfl)
theorem YT:V5 []=[]:=(rfl)
theorem YS{n:Nat}{ns:List Nat}:V5 (n::ns)=.tmp n::V5 ns:=(rfl)
theorem aad{n:Nat}:mv n=.mv (.tmp n):=(rfl)
theorem aac{n:Int}:mi n=.mv (.const (.int .i64 n)):=(rfl)
theorem aab{b:Bool}:mb b=.mv (.const (.bool b)):=(rfl)
theorem Z6{n:Nat}:ld n=.load 1 false (.tmp n):=(rfl)
theorem Z5{e n:Nat}:la e n=.load e true (.tmp n):=(rfl)
theorem Zi{o n:Nat}:fa o n=.P0 o (.tmp n):=(rfl)
theorem Ze{f:Nat}{ns:List Nat}:cf f ns=.ke f (V5 ns):=(rfl)
theorem aah{a b:Nat}:pa a b=.pick (.tmp a) (.tmp b) (.const (.bool false)):=(rfl)
theorem aai{a b:Nat}:po a b=.pick (.tmp a) (.const (.bool true)) (.tmp b):=(rfl)
theorem Zc{o:BinOp}{a b:Nat}:bn o a b=.bin o (.tmp a) (.tmp b):=(rfl)
theorem Zb{o:BinOp}{a:Nat}{n:Int}:bi o a n=.bin o (.tmp a) (.const (.int .i64 n)):=(rfl)
theorem aaf{n:Nat}:nt n=.un .not (.tmp n):=(rfl)
theorem Z_{n:Nat}:ln n=.len (.tmp n):=(rfl)
theorem Zh{n i:Nat}:ex n i=.ext (.tmp n) i:=(rfl)
theorem Z4{e a b:Nat}:ix e a b=.tG e (.tmp a) (.tmp b):=(rfl)
theorem Zd{d t n:Nat}:bo d t n=.box d t (.tmp n):=(rfl)
theorem Y_{d t e b x y:Nat}:ap d t e b x y=.app d t e b (.tmp x) (.tmp y):=(rfl)
theorem aap{n a b:Nat}:sr n a b=.store n (.tmp a) (.tmp b):=(rfl)
attribute [go_sem] aao aan aam aal aak aar Z0 YT YS aad aac aab Z6 Z5 Zi Ze aah aai Zc Zb aaf Z_ Zh Z4 Zd Y_ aap
class iU {α:Type} (x:Option α) (Q:outParam (α->Prop)):Prop where
 c:∀{r:α},x=some r->Q r
def P4{α β:Type}(x:Option α)(K:α->Option β)(r:β):Prop:=x.bind K=some r
def Ite{α:Type}(c:Bool)(a b:Option α)(r:α):Prop:=(if c=true then a else b)=some r
def Nds{α:Type}(p:Prop)(a:Option α)(r:α):Prop:=p/\a=some r
theorem toB{α β:Type}{x:Option α}{K:α->Option β}{r:β}(h:x.bind K=some r):P4 x K r:=h
theorem toI{α:Type}{c:Bool}{a b:Option α}{r:α}(h:(if c=true then a else b)=some r):Ite c a b r:=h
theorem toN{α:Type}{p:Prop}[Decidable p]{a:Option α}{r:α}(h:(if p then a else none)=some r):Nds p a r:=wT h
theorem toE{α:Type}{x r:α}(h:some x=some r):x=r:=dw h
theorem toF{α:Type}{r:α}(h:none=some r):False:=by cases h
theorem it{α:Type}{c:Bool}{a b:Option α}{r:α}{p q1 q2:Prop}(h:Ite c a b r)(k1:c=true->a=some r->q1)(k2:c=false->b=some r->q2)
 (e1:c=true->p=q1:=by intro hc;(try simp only[ai,aJ,bL,aT,Nat.reduceAdd]at hc);first|((conv=>lhs;simp(maxSteps:=1000000) (disch:=omega)only[go_sem,lu,lp,mA,mz,bF,bh,bA,Nat.reduceAdd,Nat.reduceSub,Nat.reduceLeDiff,Nat.reduceEqDiff,Nat.reduceLT,Int.reduceToNat,reduceIte,reduceCtorEq,hc])<;>rfl)|rfl)
 (e2:c=false->p=q2:=by intro hc;(try simp only[ai,aJ,bL,aT,Nat.reduceAdd]at hc);first|((conv=>lhs;simp(maxSteps:=1000000) (disch:=omega)only[go_sem,lu,lp,mA,mz,bF,bh,bA,Nat.reduceAdd,Nat.reduceSub,Nat.reduceLeDiff,Nat.reduceEqDiff,Nat.reduceLT,Int.reduceToNat,reduceIte,reduceCtorEq,hc])<;>rfl)|rfl):p:=
 (Dp h).elim (fun h=>(e1 h.1).symm▸k1 h.1 h.2) fun h=>(e2 h.1).symm▸k2 h.1 h.2
theorem G7{ρ:Nat->Option Nat}{id e n:Nat}{ds:List D}:AV.lq ρ (AV.nF id ds (.mX e id n))=AV.nF id ds (.mX e id n):=by
 simp only[AV.nF,aC];split<;>rfl
attribute [go_sem] G7
def Rt(p:Prop):Prop:=p
theorem rtA{c x:Prop}(h:c):Rt (c/\x)=Rt x:=propext ⟨fun k=>k.2,fun k=>⟨h,k⟩⟩
theorem qa{p q:Prop}(hq:q)(e:p=q:=by first|((conv=>lhs;change Rt _;simp(maxSteps:=1000000) (disch:=omega)only[rtA,go_sem,lu,lp,mA,mz,bF,bh,bA,Nat.reduceAdd,Nat.reduceSub,Nat.reduceLeDiff,Nat.reduceEqDiff,Nat.reduceLT,Int.reduceToNat,reduceIte,reduceCtorEq];delta Rt)<;>rfl)|rfl):p:=e▸hq
theorem ndN{α:Type}{c p q:Prop}{a:Option α}{r:α}(h:Nds c a r)(k:c->a=some r->q)
 (e:c->p=q:=by intro hp;(try(have hq':=hp;simp only[ai,aJ,bL,aT,Nat.reduceAdd]at hq'));first|((conv=>lhs;change Rt _;simp(maxSteps:=1000000) (disch:=omega)only[rtA,go_sem,lu,lp,mA,mz,bF,bh,bA,Nat.reduceAdd,Nat.reduceSub,Nat.reduceLeDiff,Nat.reduceEqDiff,Nat.reduceLT,Int.reduceToNat,reduceIte,reduceCtorEq];delta Rt)<;>rfl)|rfl):p:=(e h.1).symm▸(k h.1 h.2)
theorem kz{α:Type}{c p q:Prop}{_:Decidable c}{a:Option α}{r:α}(h:(if c then a else none)=some r)(k:c->a=some r->q)
 (e:c->p=q:=by intro hp;(try(have hq':=hp;simp only[ai,aJ,bL,aT,Nat.reduceAdd]at hq'));first|((conv=>lhs;change Rt _;simp(maxSteps:=1000000) (disch:=omega)only[rtA,go_sem,lu,lp,mA,mz,bF,bh,bA,Nat.reduceAdd,Nat.reduceSub,Nat.reduceLeDiff,Nat.reduceEqDiff,Nat.reduceLT,Int.reduceToNat,reduceIte,reduceCtorEq];delta Rt)<;>rfl)|rfl):p:=(e (wT h).1).symm▸(k (wT h).1 (wT h).2)
section
variable{α β:Type}{P:Program}{k0 f:Nat}{args env:List AV}{s:iw}{d:Option Nat}{R:List AV->iw->Prop}{F:List (List Nat×List Nat)->List AV->iw->Prop}{ms:List iO}{acc:List (List Nat×List Nat)}{foot:List Nat}
 {x:Option α} {K:α->Option β} {r:β} {q:α->Prop}
theorem rC{dz:List D}{y:α->D}[i:iU x fun a=>jW P f dz (y a)](h:P4 x K r)(hk:∀a,x=some a->K a=some r->q a)
 (e:∀a,R (iZ d env (.d (y a))) s=q a:=by intro a;first|((conv=>lhs;simp(maxSteps:=1000000) (disch:=omega)only[go_sem,lu,lp,mA,mz,bF,bh,bA,Nat.reduceAdd,Nat.reduceSub,Nat.reduceLeDiff,Nat.reduceEqDiff,Nat.reduceLT,Int.reduceToNat,reduceIte,reduceCtorEq])<;>rfl)|rfl) (ha:iY (args.map fun x=>x.lq (om [])) (dz.map .d):=by exact lM):mu P k0 f args env s d R:=
 let⟨a,h1,h2⟩:=bind_some h;Nv (i.c h1) ha ((e a).symm▸hk a h1 h2)
theorem T7{dz:List D}{y:α->List D}[i:iU x fun a=>qV P f dz (y a)](h:P4 x K r)(hk:∀a,x=some a->K a=some r->q a)
 (e:∀a,R (iZ d env (.mB ((y a).map .d))) s=q a:=by intro a;first|((conv=>lhs;simp(maxSteps:=1000000) (disch:=omega)only[go_sem,lu,lp,mA,mz,bF,bh,bA,Nat.reduceAdd,Nat.reduceSub,Nat.reduceLeDiff,Nat.reduceEqDiff,Nat.reduceLT,Int.reduceToNat,reduceIte,reduceCtorEq])<;>rfl)|rfl) (ha:iY (args.map fun x=>x.lq (om [])) (dz.map .d):=by exact lM):mu P k0 f args env s d R:=
 let⟨a,h1,h2⟩:=bind_some h;K6 (i.c h1) ha ((e a).symm▸hk a h1 h2)
theorem dC{dz:List D}{y:α->D}[i:iU x fun a=>jW P f dz (y a)](h:P4 x K r)(hk:∀a,x=some a->K a=some r->q a)
 (e:∀a,vz P k0 F ms ((foot,[])::acc) (iZ d env (.d (y a))) s=q a:=by intro a;first|((conv=>lhs;simp(maxSteps:=1000000) (disch:=omega)only[go_sem,lu,lp,mA,mz,bF,bh,bA,Nat.reduceAdd,Nat.reduceSub,Nat.reduceLeDiff,Nat.reduceEqDiff,Nat.reduceLT,Int.reduceToNat,reduceIte,reduceCtorEq])<;>rfl)|rfl) (ha:iY (args.map fun x=>x.lq (om [])) (dz.map .d):=by exact lM):og P k0 F ms acc foot d env s f args:=
 let⟨a,h1,h2⟩:=bind_some h;Nt (i.c h1) ha ((e a).symm▸hk a h1 h2)
theorem dCN{dz:List D}{y:α->List D}[i:iU x fun a=>qV P f dz (y a)](h:P4 x K r)(hk:∀a,x=some a->K a=some r->q a)
 (e:∀a,vz P k0 F ms ((foot,[])::acc) (iZ d env (.mB ((y a).map .d))) s=q a:=by intro a;first|((conv=>lhs;simp(maxSteps:=1000000) (disch:=omega)only[go_sem,lu,lp,mA,mz,bF,bh,bA,Nat.reduceAdd,Nat.reduceSub,Nat.reduceLeDiff,Nat.reduceEqDiff,Nat.reduceLT,Int.reduceToNat,reduceIte,reduceCtorEq])<;>rfl)|rfl) (ha:iY (args.map fun x=>x.lq (om [])) (dz.map .d):=by exact lM):og P k0 F ms acc foot d env s f args:=
 let⟨a,h1,h2⟩:=bind_some h;K5 (i.c h1) ha ((e a).symm▸hk a h1 h2)
theorem qC(pr nw:List gJ){dz:List AV}{s1:iw}{t:α->iw}{y:α->AV}[i:iU x fun a=>iH P f dz s1 pr.length fun x s'=>x=y a/\s'=t a](h:P4 x K r)(hk:∀a,x=some a->K a=some r->q a)
 (e:∀a,R (iZ d env ((y a).lq (lX (pr++nw)))) (qi s (t a) (pr++nw) (pr++nw))=q a:=by intro a;first|((conv=>lhs;simp(maxSteps:=1000000) (disch:=omega)only[go_sem,lu,lp,mA,mz,bF,bh,bA,Nat.reduceAdd,Nat.reduceSub,Nat.reduceLeDiff,Nat.reduceEqDiff,Nat.reduceLT,Int.reduceToNat,reduceIte,reduceCtorEq])<;>rfl)|rfl)
 (h1:pr.map (·.1)=List.range pr.length:=by rfl) (h2:((pr++nw).map (·.1)).Nodup:=by decide) (h3:((pr++nw).map (·.2)).Nodup:=by decide)
 (h4:∀p∈nw,sat s p.2=.dead/\k0<=p.2:=by simp[sat]) (ha:iY (args.map fun x=>x.lq (om pr)) dz:=by exact lM) (hs:lg (mg s pr pr) s1:=by exact lM):mu P k0 f args env s d R:=
 let⟨a,g1,g2⟩:=bind_some h;E1 pr nw (i.c g1) h1 h2 h3 h4 ha hs ((e a).symm▸hk a g1 g2)
theorem ND(pr nw:List gJ){dz:List AV}{s1:iw}{t:α->iw}{y:α->AV}[i:iU x fun a=>iH P f dz s1 pr.length fun x s'=>x=y a/\s'=t a](h:P4 x K r)(hk:∀a,x=some a->K a=some r->q a)
 (e:∀a,vz P k0 F ms (((pr++nw).map (·.2)++foot,(GZ (t a) (pr++nw) (pr++nw)).map (·.1))::acc) (iZ d env ((y a).lq (lX (pr++nw)))) (qk s (GZ (t a) (pr++nw) (pr++nw)))=q a:=by intro a;first|((conv=>lhs;simp(maxSteps:=1000000) (disch:=omega)only[go_sem,lu,lp,mA,mz,bF,bh,bA,Nat.reduceAdd,Nat.reduceSub,Nat.reduceLeDiff,Nat.reduceEqDiff,Nat.reduceLT,Int.reduceToNat,reduceIte,reduceCtorEq])<;>rfl)|rfl)
 (h1:pr.map (·.1)=List.range pr.length:=by rfl) (h2:((pr++nw).map (·.1)).Nodup:=by decide) (h3:((pr++nw).map (·.2)).Nodup:=by decide)
 (h4:∀p∈nw,sat s p.2=.dead/\k0<=p.2:=by simp[sat]) (ha:iY (args.map fun x=>x.lq (om pr)) dz:=by exact lM) (hs:lg (mg s pr pr) s1:=by exact lM):og P k0 F ms acc foot d env s f args:=
 let⟨a,g1,g2⟩:=bind_some h;QC pr nw (i.c g1) h1 h2 h3 h4 ha hs ((e a).symm▸hk a g1 g2)
end
theorem lP{p:Prop}(h:p:=by repeat' first
 |refine jM (by kernel_rfl) (iR ?_)
 |refine wj h_ (qa ?_)
 |(with_reducible replace h:=toE h);subst h;first|(refine⟨_,rfl,iV.V0 ?_ ?_⟩<;>(first|(simp only[go_sem,iq,aR,bI,bJ,aH,Nat.reduceAdd,Nat.reduceSub,Nat.reduceLeDiff,Nat.reduceEqDiff,Nat.reduceLT,reduceIte,reduceCtorEq];done)|((try simp only[go_sem,iq,aR,bI,bJ,aH,Nat.reduceAdd,Nat.reduceSub,Nat.reduceLeDiff,Nat.reduceEqDiff,Nat.reduceLT,reduceIte,reduceCtorEq];repeat' (first|exact AV.le_refl _|refine And.intro ?_ ?_|refine AV.yy ?_|refine AV.vP ?_|refine AV.Ae ?_|refine AV.xy (DL.agg ?_)|exact UI|exact Cn|refine UH ?_ ?_|refine zB ?_ ?_|exact UF|refine UE ?_ ?_|exact si (AV.xy DL.nil) _|exact D.le_refl _|exact xm|exact rZ|refine xl ?_|(simp only[go_sem,iq,aR,bI,bJ,aH,Nat.reduceAdd,Nat.reduceSub,Nat.reduceLeDiff,Nat.reduceEqDiff,Nat.reduceLT,reduceIte,reduceCtorEq];done)|refine ql.append (ql.refl _) ?_|refine AV.tT ?_|refine AV.Dt ?_|omega));done)))|(first|(simp only[go_sem,iq,aR,bI,bJ,aH,Nat.reduceAdd,Nat.reduceSub,Nat.reduceLeDiff,Nat.reduceEqDiff,Nat.reduceLT,reduceIte,reduceCtorEq];done)|((try simp only[go_sem,iq,aR,bI,bJ,aH,Nat.reduceAdd,Nat.reduceSub,Nat.reduceLeDiff,Nat.reduceEqDiff,Nat.reduceLT,reduceIte,reduceCtorEq];repeat' (first|exact AV.le_refl _|refine And.intro ?_ ?_|refine AV.yy ?_|refine AV.vP ?_|refine AV.Ae ?_|refine AV.xy (DL.agg ?_)|exact UI|exact Cn|refine UH ?_ ?_|refine zB ?_ ?_|exact UF|refine UE ?_ ?_|exact si (AV.xy DL.nil) _|exact D.le_refl _|exact xm|exact rZ|refine xl ?_|(simp only[go_sem,iq,aR,bI,bJ,aH,Nat.reduceAdd,Nat.reduceSub,Nat.reduceLeDiff,Nat.reduceEqDiff,Nat.reduceLT,reduceIte,reduceCtorEq];done)|refine ql.append (ql.refl _) ?_|refine AV.tT ?_|refine AV.Dt ?_|omega));done))|(refine⟨[],by simp,?_,?_⟩<;>(first|(simp only[go_sem,iq,aR,bI,bJ,aH,Nat.reduceAdd,Nat.reduceSub,Nat.reduceLeDiff,Nat.reduceEqDiff,Nat.reduceLT,reduceIte,reduceCtorEq];done)|((try simp only[go_sem,iq,aR,bI,bJ,aH,Nat.reduceAdd,Nat.reduceSub,Nat.reduceLeDiff,Nat.reduceEqDiff,Nat.reduceLT,reduceIte,reduceCtorEq];repeat' (first|exact AV.le_refl _|refine And.intro ?_ ?_|refine AV.yy ?_|refine AV.vP ?_|refine AV.Ae ?_|refine AV.xy (DL.agg ?_)|exact UI|exact Cn|refine UH ?_ ?_|refine zB ?_ ?_|exact UF|refine UE ?_ ?_|exact si (AV.xy DL.nil) _|exact D.le_refl _|exact xm|exact rZ|refine xl ?_|(simp only[go_sem,iq,aR,bI,bJ,aH,Nat.reduceAdd,Nat.reduceSub,Nat.reduceLeDiff,Nat.reduceEqDiff,Nat.reduceLT,reduceIte,reduceCtorEq];done)|refine ql.append (ql.refl _) ?_|refine AV.tT ?_|refine AV.Dt ?_|omega));done)))
 |(with_reducible exact(toF h).elim)
 |(with_reducible replace h:=toI h);refine it h (fun hc h=>?_) (fun hc h=>?_)
 |(with_reducible replace h:=toN h);refine ndN h (fun hp h=>?_)
 |(with_reducible replace h:=toB h);first|refine rC h (fun r hr h=>?_)|refine T7 h (fun r hr h=>?_)|refine dC h (fun r hr h=>?_)|refine dCN h (fun r hr h=>?_)
 |(with_reducible replace h:=jf h hb3)
 |(with_reducible replace h:=jf h hb2)
 |(with_reducible replace h:=jf h hb1)
 |(exfalso;simp only[av,bR]at *;omega)):p:=h
theorem iT{α:Type}{c:Bool}{a b:Option α}{r:α}{p q1:Prop}(h:(if c=true then a else b)=some r)(k1:c=true->a=some r->q1)
 (e1:c=true->p=q1:=by intro hc;(try simp only[ai,aJ,bL,aT,Nat.reduceAdd]at hc);first|((conv=>lhs;simp(maxSteps:=1000000) (disch:=omega)only[go_sem,lu,lp,mA,mz,bF,bh,bA,Nat.reduceAdd,Nat.reduceSub,Nat.reduceLeDiff,Nat.reduceEqDiff,Nat.reduceLT,Int.reduceToNat,reduceIte,reduceCtorEq,hc])<;>rfl)|rfl)
 (k2:c=false->b=some r->p:=by intro hc h;(try simp only[ai,aJ,bL,aT,Nat.reduceAdd]at hc);refine uF hc ?_;exact lP):p:=
 (Dp h).elim (fun h=>(e1 h.1).symm▸k1 h.1 h.2) fun h=>k2 h.1 h.2
theorem iF{α:Type}{c:Bool}{a b:Option α}{r:α}{p q2:Prop}(h:(if c=true then a else b)=some r)(k2:c=false->b=some r->q2)
 (e2:c=false->p=q2:=by intro hc;(try simp only[ai,aJ,bL,aT,Nat.reduceAdd]at hc);first|((conv=>lhs;simp(maxSteps:=1000000) (disch:=omega)only[go_sem,lu,lp,mA,mz,bF,bh,bA,Nat.reduceAdd,Nat.reduceSub,Nat.reduceLeDiff,Nat.reduceEqDiff,Nat.reduceLT,Int.reduceToNat,reduceIte,reduceCtorEq,hc])<;>rfl)|rfl)
 (k1:c=true->a=some r->p:=by intro hc h;(try simp only[ai,aJ,bL,aT,Nat.reduceAdd]at hc);refine uF hc ?_;exact lP):p:=
 (Dp h).elim (fun h=>k1 h.1 h.2) fun h=>(e2 h.1).symm▸k2 h.1 h.2
theorem kA{P:Program}{k:Nat}{Q:Post}{env:List AV}{s:iw}{x:ir}{σ β:Type}{f:σ->Option (σ⊕β)}{s0:σ}{b:β}(hb:iB f s0=some b)
 (ws:List Nat) (vs:σ->List (Nat×AV)) (S:σ->iw)
 (round:∀p t,f p=some t->(∀b',t=.inr b'->b'=b)->ot P k x (yS (fun env' s'=>∃p',t=.inl p'/\iV k env' s' (pK (rU env ws) (vs p')) (S p')) Q)
  (pK (rU env ws) (vs p)) (S p)) (hw:iV k env s (pK (rU env ws) (vs s0)) (S s0):=by(try dsimp only);exact wk):ot P k (.loop x) Q env s:=xA hb ws vs S hw round
def Z7:D->Bool
 |.lit _=>true
 |_=>false
def C7:D->Bool
 |.lit _=>true
 |.sl _ _ _=>true
 |_=>false
def KJ:D->AV
 |.sl e nl xs=>.dp (.sl e nl xs)
 |x=>.d x
theorem HP{β:iE}{O:Own}{w:World}{x:D}{v:Value}{bs:List Nat}(hx:C7 x=true)(h:NX β O w (KJ x) v bs):NV w x v bs:=by
 cases x with
 |any=>cases hx
 |agg cs=>cases hx
 |lit u=>
  obtain⟨h1,h2⟩:=h;have h1:D.ok O w (.lit u) v:=by
   have h1:AV.ok β O w (.d (.lit u)) v:=h1;simpa only[AV.ok]using h1
  have h1:v=u/\one u=true:=by simpa only[D.ok]using h1
  exact⟨h1.1,h1.2,h2⟩
 |sl e nl xs=>exact h
theorem CK{β:iE}{O:Own}{w:World}:∀{cs:List D}{vs r:List Value}{bs:List Nat},(∀x∈cs,C7 x=true)->vs.length=cs.length->tB β O w (cs.map KJ) (vs++r) bs->NC w cs vs bs
 |[],vs,r,bs,_,hl,h=>by
  simp only[cT,tB]at h;simp only[NC];exact⟨bG.1 hl,h⟩
 |c::cs,[],r,bs,_,hl,_=>by simp at hl
 |c::cs,u::us,r,bs,hc,hl,h=>by
  simp only[aO,bC,tB]at h;obtain⟨v,q,b1,b2,h1,rfl,h3,h4⟩:=h;cases h1;simp only[NC];exact⟨u,us,b1,b2,rfl,rfl,HP (hc c (by simp)) h3,CK (fun x hx=>hc x (by simp[hx])) (by simpa using hl) h4⟩
theorem CL{β:iE}{O:Own}{w:World}{e:Nat}:∀{xs:List D}{vs:List Value}{bs:List Nat},(∀x∈xs,(iy x).length=e)->(∀x∈xs,∀c∈iy x,C7 c=true)->
 tB β O w ((xs.flatMap iy).map KJ) vs bs->NR w e xs vs bs
 |[],vs,bs,_,_,h=>by simpa[tB,NR]using h
 |x::xs,vs,bs,he,hc,h=>by
  rw[cU,aR]at h;obtain⟨h1,b1,b2,rfl,h2,h3⟩:=yV h;rw[aT]at h1 h3;have hlen:=he x (by simp);have hsp:vs=vs.take e++vs.drop e:=(cJ e vs).symm;have hle:e<=vs.length:=by omega
  have ih:=CL (xs:=xs) (fun y hy=>he y (by simp[hy])) (fun y hy=>hc y (by simp[hy])) h3;rw[hlen]at ih;have hnc:NC w (iy x) (vs.take e) b1:=CK (r:=vs.drop e) (hc x (by simp)) (by rw[bY,hlen];omega) (by rw[cJ];exact h2);cases x with
  |agg cs=>
   simp only[NR];exact⟨vs.take e,vs.drop e,b1,b2,hsp,by rw[bY];omega,rfl,hnc,ih⟩
  |any=>exact absurd (hc .any (by simp) .any (by simp[iy])) (by simp[C7])
  |lit u=>
   simp only[iy,aJ,bL]at hlen;subst hlen;simp only[iy,NC]at hnc;obtain⟨v,r,c1,c2,g1,rfl,g3,g4,rfl⟩:=hnc;simp only[NR];exact⟨v,vs.drop 1,c1,b2,by
    conv=>lhs;rw[hsp]
    rw[g1,g4];rfl,by trivial,by simp,g3,ih⟩
  |sl e' nl ys=>
   simp only[iy,aJ,bL]at hlen;subst hlen;simp only[iy,NC]at hnc;obtain⟨v,r,c1,c2,g1,rfl,g3,g4,rfl⟩:=hnc;simp only[NR];exact⟨v,vs.drop 1,c1,b2,by
    conv=>lhs;rw[hsp]
    rw[g1,g4];rfl,by trivial,by simp,g3,ih⟩
def Hz(ds:List D):List AV:=(ds.flatMap iy).map KJ
theorem sd{ρ:Nat->Option Nat}:∀{ds:List D},AV.jk ρ (Hz ds)=Hz ds:=fun{ds}=>by
 rw[nS];unfold Hz;rw[eS];refine eJ fun x _=>?_
 cases x<;>rfl
theorem Vg{C:Ctx}{β:iE}{s:iw}{w:World}(h:Inv C β s w){id' e:Nat}{xs:List D}(hs:sat s id'=.tK e xs.length (Hz xs))
 (he:∀x∈xs,(iy x).length=e) (hc:∀x∈xs,∀c∈iy x,C7 c=true) (v:Value) (hv:AV.ok β (C.iz β s) w (.mX e id' xs.length) v):
 ∃B:List Nat,B.Nodup/\(∀b∈B,ig β s id' b/\∃vs t',w.heap[b]?=some (.cells vs t' (0,0)))/\NV w (.sl e none xs) v B:=by
 have ho:=h.obs id';rw[hs]at ho;obtain⟨u,bs,hb,h0,hl,htok⟩:=ho;simp only[AV.ok]at hv;obtain⟨p,q,h1,_,h3,_⟩:=hv;rw[hb]at h1;obtain⟨rfl,rfl⟩:=h1;have hvu:v=u:=h3 rfl;subst hvu;rcases htok with⟨⟨a,rfl⟩,k2,rfl⟩|⟨b,cap',vs,t,rfl,k5,k6,k7,k8,k9,kc,k10,k11⟩
 ·have hx:xs=[]:=bG.1 k2;subst hx;refine⟨[],by simp,by simp,?_⟩;simp only[NV];exact⟨a,0,rfl,⟨aA _,h_⟩,trivial,.inl (by simp)⟩
 ·refine⟨b::bs,k10,fun q hq=>?_,?_⟩
  ·rcases bu.1 hq with rfl|hq
   ·exact⟨by unfold ig;rw[hs];exact⟨_,bs,hb,.inl ⟨cap',rfl,kc⟩⟩,vs,t,k5⟩
   ·exact⟨by unfold ig;rw[hs];exact⟨_,bs,hb,.inr hq⟩,h0 q hq⟩
  ·simp only[NV];exact⟨_,cap',rfl,⟨k7,k8⟩,trivial,.inr ⟨b,vs,t,bs,rfl,rfl,k5,k6,k9,CL he hc k11⟩⟩
def ML(s:iw)(id' e':Nat)(xs:List D):Prop:=sat s id'=.tK e' xs.length (Hz xs)/\(∀x∈xs,(iy x).length=e')/\∀x∈xs,∀c∈iy x,C7 c=true
theorem ML.nv{C:Ctx}{β:iE}{s:iw}{w:World}(h:Inv C β s w){id' e':Nat}{xs:List D}(hw:ML s id' e' xs)(v:Value)(hv:AV.ok β (C.iz β s) w (.mX e' id' xs.length) v):
 ∃B:List Nat,B.Nodup/\(∀b∈B,ig β s id' b/\∃vs t',w.heap[b]?=some (.cells vs t' (0,0)))/\NV w (.sl e' none xs) v B:=Vg h hw.1 hw.2.1 hw.2.2 v hv
mutual
theorem NV.ok{O:Own}{w:World}:∀{x:D}{v:Value}{bs:List Nat},NV w x v bs->(∀b∈bs,∀o,¬O b o)->D.ok O w x v
 |.any,_,_=>fun h _=>h.elim
 |.agg _,_,_=>fun h _=>h.elim
 |.lit u,v,bs=>fun h _=>by
  simp only[NV]at h;simp only[D.ok];exact⟨h.1,h.2.1⟩
 |.sl e nl xs,v,bs=>fun h hO=>by
  simp only[NV]at h;simp only[D.ok];obtain⟨a,cap,rfl,h2,h3,h4⟩:=h;refine⟨a,cap,rfl,h2,h3,?_⟩;rcases h4 with⟨_,rfl,_⟩|⟨b,vs,t,bs',rfl,rfl,h5,h6,h7,h8⟩
  ·exact .inl rfl
  ·refine .inr ⟨b,0,rfl,NR.row h8 (fun q hq=>hO q (by simp[hq])) fun j u hj=>?_⟩;refine⟨?_,hO b (by simp) _,h7 u (bO hj)⟩;simp only[World.cell?,h5,cw,ak,aB,ck];simpa using hj
theorem NC.iP{O:Own}{w:World}:∀{xs:List D}{vs:List Value}{bs:List Nat},NC w xs vs bs->(∀v∈vs,one v=true)->(∀b∈bs,∀o,¬O b o)->D.iP O w xs vs
 |[],vs,bs=>fun h _ _=>by
  simp only[NC]at h;simp only[D.iP];exact h.1
 |c::cs,vs,bs=>fun h h1 hO=>by
  simp only[NC]at h;obtain⟨v,r,b1,b2,rfl,rfl,h3,h4⟩:=h;simp only[D.iP];exact⟨v,r,rfl,h1 v (by simp),NV.ok h3 (fun b hb=>hO b (by simp[hb])),NC.iP h4 (fun v hv=>h1 v (by simp[hv])) (fun b hb=>hO b (by simp[hb]))⟩
theorem NR.row{O:Own}{w:World}{b o e:Nat}:∀{xs:List D}{vs:List Value}{bs:List Nat},NR w e xs vs bs->(∀b∈bs,∀o,¬O b o)->kG O w b o vs->D.row O w b o e xs
 |[],_,_=>fun _ _ _=>by simp[D.row]
 |.agg cs::xs,vs,bs=>fun h hO hc=>by
  simp only[NR]at h;obtain⟨us,r,b1,b2,rfl,hl,rfl,h3,h4⟩:=h;simp only[D.row];have hc1:kG O w b o us:=fun j v hj=>hc j v (by rw[aW (aN.1 hj).1];exact hj)
  have hc2:kG O w b (o+e) r:=fun j v hj=>by
   have:=hc (e+j) v (by rw[bK h_,hl,dI];exact hj);rwa [<-c_]at this
  exact⟨⟨us,hl,hc1,NC.iP h3 (fun v hv=>by obtain⟨j,hj⟩:=cC hv;exact(hc1 j v hj).2.2) fun b hb=>hO b (by simp[hb])⟩,NR.row h4 (fun b hb=>hO b (by simp[hb])) hc2⟩
 |.any::xs,vs,bs=>fun h hO hc=>by
  simp only[NR]at h;obtain⟨v,r,b1,b2,rfl,rfl,rfl,h3,h4⟩:=h;exact h3.elim
 |.lit u::xs,vs,bs=>fun h hO hc=>by
  have hq:=fun v b1=>NV.ok (O:=O) (w:=w) (x:=.lit u) (v:=v) (bs:=b1)
  simp only[NR]at h;obtain⟨v,r,b1,b2,rfl,rfl,rfl,h3,h4⟩:=h;simp only[D.row];refine⟨⟨v,by trivial,fun j u hj=>?_,hq v b1 h3 (fun b hb=>hO b (by simp[hb]))⟩,NR.row h4 (fun b hb=>hO b (by simp[hb])) fun j u hj=>?_⟩
  ·cases j with
   |zero=>exact hc 0 u (by simpa using hj)
   |succ j=>simp at hj
  ·have:=hc (1+j) u (by rw[cS];simpa using hj);rwa [<-c_]at this
 |.sl e' nl ys::xs,vs,bs=>fun h hO hc=>by
  have hq:=fun v b1=>NV.ok (O:=O) (w:=w) (x:=.sl e' nl ys) (v:=v) (bs:=b1)
  simp only[NR]at h;obtain⟨v,r,b1,b2,rfl,rfl,rfl,h3,h4⟩:=h;simp only[D.row];refine⟨⟨v,by trivial,fun j u hj=>?_,hq v b1 h3 (fun b hb=>hO b (by simp[hb]))⟩,NR.row h4 (fun b hb=>hO b (by simp[hb])) fun j u hj=>?_⟩
  ·cases j with
   |zero=>exact hc 0 u (by simpa using hj)
   |succ j=>simp at hj
  ·have:=hc (1+j) u (by rw[cS];simpa using hj);rwa [<-c_]at this
end
theorem Inv.grown{C:Ctx}{β:iE}{s:iw}{w w':World}(h:Inv C β s w)(hs:w.heap.size<=w'.heap.size)(hio:zC w'=zC w)(hk:∀b,b<w.heap.size->w'.heap[b]?=w.heap[b]?):Inv C β s w':=
 (St.grow (env:=[]) (a:={tmps:=#[],defers:=[]}) ⟨.nil,h,rfl,fun i x hx=>by simp at hx⟩ hs hio hk).inv
class P5 {α:Type} (f:α->D):Prop where
 lit:∀x,Z7 (f x)=true
class Cl {α:Type} (f:α->D):Prop where
 cl:∀x,∀c∈iy (f x),C7 c=true
instance:P5 iD:=⟨fun _=>rfl⟩
instance:P5 bD:=⟨fun _=>rfl⟩
instance:P5 sD:=⟨fun _=>rfl⟩
instance{k:IntKind}:P5 (kD k):=⟨fun _=>rfl⟩
instance:Cl iD:=⟨fun _ c h=>by simp only[iD,iy,aK]at h;subst h;rfl⟩
instance:Cl bD:=⟨fun _ c h=>by simp only[bD,iy,aK]at h;subst h;rfl⟩
instance:Cl sD:=⟨fun _ c h=>by simp only[sD,iy,aK]at h;subst h;rfl⟩
instance{k:IntKind}:Cl (kD k):=⟨fun _ c h=>by simp only[kD,iy,aK]at h;subst h;rfl⟩
instance{α:Type}{e:Nat}{f:α->D}:Cl (iq e f):=⟨fun _ c h=>by simp only[iq,iy,aK]at h;subst h;rfl⟩
section
variable{α:Type}{f:α->D}{e n id:Nat}{s:iw}{xs ys:List α}
variable[Inhabited α]{i k:Nat}
end
attribute [go_sem] sd
def eD{α:Type}(f:α->D)(M:List (Lit×α)):List (Lit×D):=M.map fun p=>(p.1,f p.2)
section
variable{α:Type}{f:α->D}{M:List (Lit×α)}{kl:Lit}{x:α}
theorem UG:eD f []=[]:=rfl
theorem QJ:eD f ((kl,x)::M)=(kl,f x)::eD f M:=rfl
end
theorem Ny{id:Nat}:AV.cells (.mp id)=some [.mp id]:=rfl
theorem Sf{id:Nat}{xs:List AV}:AV.qS (.mp id::xs)=none:=rfl
theorem IC{v:Value}:IB (.lit v)=false:=rfl
theorem Ls{e:Nat}{nl:Option Bool}{xs:List D}:IB (.sl e nl xs)=false:=rfl
theorem ID{α:Type}{e:Nat}{f:α->D}{xs:List α}:IB (iq e f xs)=false:=rfl
attribute [go_sem] UG QJ Ny Sf IC Ls ID
def YB(id:Nat)(ds:List D):AV->AV
 |.ptr j off=>if j=id then .pv (ds.drop off)else .ptr j off
 |x=>x
def VL:AV->Bool
 |.ptr _ _=>true
 |.pv _=>true
 |.d _=>true
 |_=>false
def N6:AV->Bool
 |.d _=>true
 |_=>false
def NF:Ob->Bool
 |.obj _ cs=>cs.all N6
 |.dead=>true
 |_=>false
theorem EK{ρ:Nat->Option Nat}:∀{cs:List AV},cs.all N6=true->AV.jk ρ cs=cs
 |[],_=>rfl
 |x::xs,h=>by
  rw[dG,a_]at h;have ih:=EK (ρ:=ρ) h.2;cases x with
  |d y=>simp only[AV.jk,AV.lq,ih]
  |_=>exact absurd h.1 (by simp[N6])
theorem NG{rest:iw}(hr:rest.all (fun p=>NF p.2)=true)(j:Nat):NF (sat rest j)=true:=by
 induction rest with
 |nil=>rfl
 |cons p r ih=>
  rw[dG,a_]at hr;simp only[sat];split
  ·exact hr.1
  ·exact ih hr.2
theorem Ly{id:Nat}{o:Ob}(h:NF o=true):o.kill id=o:=by
 cases o<;>simp[NF]at h
 ·rfl
 ·rename_i t cs;simp only[Ob.kill];rw[EK (by rw[bN];exact h)]
theorem iH.pvs{P:Program}{f:Nat}{args:List AV}{g id t:Nat}{caps:List AV}{ds:List D}{rest:iw}(h:iH P f args [] 0 fun x s'=>x=.fn g [] caps/\s'=(id,.obj t (ds.map .d))::rest)
 (hc:caps.all VL=true) (hr:rest.all (fun p=>NF p.2)=true) (hd:sat rest id=.dead):iH P f args [] 0 fun x s'=>x=.fn g [] (caps.map (YB id ds))/\s'=rest:=fun C vs hs hk hinv hargs=>by
 refine(h C vs hs hk hinv hargs).mono fun e w' ⟨v,x,β',s',he,hi,hx,hxe,hse⟩=>?_
 subst hxe hse;have ho:=hi.obs id;simp only[sat,aC]at ho;obtain⟨b,us,hb,hh,hone,pre,rst,hus,hpre⟩:=ho;have hob:=NG hr;have hsat:∀j,sat (jD id ((id,Ob.obj t (ds.map .d))::rest)) j=sat rest j:=fun j=>by
  rw[qQ];by_cases hj:j=id
  ·subst hj;simp[hd]
  ·simp only[hj,aB,sat];exact Ly (hob j)
 obtain⟨h2,hf⟩:=(hi.kill id (by rw[hk];exact cW _)).told (s':=rest) fun j=>by rw[hsat j];exact zo.refl _
 have hsub:∀b o,C.iz (iA β' id .no) rest b o->C.iz β' ((id,Ob.obj t (ds.map .d))::rest) b o:=fun b o ho=>by
  rw[hf]at ho;exact ho.imp (fun h=>h) ug
 have hblk:ig β' ((id,Ob.obj t (ds.map .d))::rest) id b:=by simp only[ig,sat,aC];exact hb
 have hnot:∀o,¬C.iz (iA β' id .no) rest b o:=fun o ho=>by
  rcases ho with ho|ho
  ·have h1:=hi.low b o ho;have hown:own β' ((id,.obj t (ds.map .d))::rest) b o:=⟨id,by simp only[sat,aC];exact hb⟩;rcases hi.qd b o hown with h3|h3
   ·exact h1.2 h3
   ·omega
  ·obtain⟨j,hj⟩:=ho.block;have hj1:ig β' ((id,Ob.obj t (ds.map .d))::rest) j b/\j≠id:=by
    have hji:j≠id:=fun e=>by subst e;unfold ig at hj;rw[hd]at hj;exact hj
    refine⟨?_,hji⟩;have:=sY (β:=β') (s:=(id,Ob.obj t (ds.map .d))::rest) (id:=id) (i:=j) (b:=b) (by
     unfold ig at hj⊢;rw[hsat];exact hj)
    exact this
   exact hj1.2 (hi.inj j id b hj1.1 hblk)
 simp only[AV.ok,AV.iP]at hx;obtain⟨fs,cs,rfl,hfs,hcs⟩:=hx;refine⟨_,_,_,_,he,h2,?_,rfl,rfl⟩;simp only[AV.ok,AV.iP];refine⟨fs,cs,rfl,hfs,?_⟩;have dm:∀{x:D}{u:Value},D.ok (C.iz β' ((id,Ob.obj t (ds.map .d))::rest)) w' x u->D.ok (C.iz (iA β' id .no) rest) w' x u:=fun{x u} hx=>D.jY (fun b o v hc hn'=>⟨hc,fun h=>hn' (hsub b o h)⟩) _ _ hx
 have key:∀(caps:List AV)(us':List Value),caps.all VL=true->AV.iP β' (C.iz β' ((id,Ob.obj t (ds.map .d))::rest)) w' caps us'->AV.iP (iA β' id .no) (C.iz (iA β' id .no) rest) w' (caps.map (YB id ds)) us':=by
  intro caps;induction caps with
  |nil=>intro us' _ h;simpa[AV.iP]using h
  |cons x xs ih=>
   intro us' hc h;simp only[dG,a_]at hc;simp only[aO,AV.iP]at h⊢;obtain⟨u,r,rfl,h3,h4⟩:=h;refine⟨u,r,rfl,?_,ih r hc.2 h4⟩;cases x<;>simp[VL]at hc
   ·rename_i d;simp only[YB,AV.ok]at h3⊢;exact dm h3
   ·rename_i j off;simp only[YB];simp only[AV.ok]at h3;obtain⟨b2,hb2,rfl⟩:=h3;by_cases hj:j=id
    ·subst hj;rw[hb]at hb2;cases hb2;simp only[aC,AV.ok];have hl:=AV.iQ hpre;have hp2:=(AV.jI.1 hpre).2;refine⟨b,off,pre.drop off,rfl,fun q u hq=>?_,?_⟩
     ·rw[cy]at hq;have hq2:us.toList[off+q]?=some u:=by rw[hus,aW (aN.1 hq).1];exact hq
      refine⟨?_,hnot _,hone u (bO hq2)⟩;simp only[World.cell?,hh,cw,ak,aB];simpa using hq2
     ·refine D.jI.2 ⟨by simp at hl;simp[hl],fun q x u hx hu=>?_⟩;rw[cy]at hx hu;have hu2:us.toList[off+q]?=some u:=by rw[hus,aW (aN.1 hu).1];exact hu
      refine⟨hone u (bO hu2),?_⟩;have:=hp2 (off+q) (.d x) u (by rw[bz,hx];rfl) hu;simp only[AV.ok]at this;exact dm this
    ·simp only[hj,aB,AV.ok];exact⟨b2,by simpa[iA,hj]using hb2,rfl⟩
   ·rename_i cs2;simp only[YB];simp only[AV.ok]at h3⊢;obtain⟨b2,o2,vs2,rfl,k1,k2⟩:=h3;exact⟨b2,o2,vs2,rfl,k1.mono (fun b o v hc hn'=>⟨hc,fun h=>hn' (hsub b o h)⟩),D.jL (fun b o v hc hn'=>⟨hc,fun h=>hn' (hsub b o h)⟩) _ _ k2⟩
 exact key caps cs.toList hc hcs
section
variable{P:Program}{k:Nat}{Q:Post}{env:List AV}{s:iw}
theorem U6{α σ β:Type}[Inhabited α]{f:Nat×σ->Option ((Nat×σ)⊕β)}{s0:σ}{b:β}(hb:iB f (0,s0)=some b){g:Operand}{p1:Nat}{x y:ir}{gf:Nat}{caps:List AV}{e1:α->D}{xs:List α}
 (it:Iter P gf caps (xs.map fun x=>[e1 x])) (K:Nat) (S:σ->iw) (hw:iV k env s env (S s0))
 (round:∀j p t,j<xs.length->f (j,p)=some t->(∀b',t=.inr b'->b'=b)->
  uh P K x (yS (uh P K y (G9 K env S (fun p'=>t=.inl (j+1,p')) Q)) fun _ _ _=>False) (pK env [(p1,.d (e1 (xs.getD j default)))]) (S p))
 (done:∀p t,f (xs.length,p)=some t->(∀b',t=.inr b'->b'=b)->Q .normal env (S p))
 (hg:ev env g=.fn gf [] caps:=by rfl) (hK:k<=K:=by omega) (hfix:AV.jk (xw K) env=env:=by rfl) (hflat:(x.flat&&y.flat)=true:=by rfl):ot P k (.G8 g [p1] x y) Q env s:=by
 rw[a_]at hflat;have hget:∀i,i<xs.length->(xs.map fun x=>[e1 x]).getD i []=[e1 (xs.getD i default)]:=fun i hi=>by simp[List.getD_eq_getElem?_getD,bz,az hi]
 refine U8 hb K hK hfix hflat hg it (fun i hi=>?_) S hw (fun j p t hj ht hbt=>?_) (fun p t ht hbt=>done p t (by rwa [aT]at ht) hbt)
 ·rw[aT]at hi;rw[hget i hi];rfl
 ·rw[aT]at hj;rw[hget j hj];refine(ia (round j p t hj ht hbt)).mono fun e env' s' hq=>?_
  cases e with
  |normal=>exact ia hq
  |_=>exact hq
end
theorem mf{P:Program}{f:Nat}{mc:ir}{n:Nat}{rs:List sW}{fn:Func}(h1:P.funcs[f]?=some fn)(h3:fn.ntmps=n)(h2:fn.body.bind (mT P)=some mc.erase:=by kernel_rfl)
 (h4:fn.results.toList.mapM (xB P)=some rs:=by kernel_rfl):kS P f mc n rs:=⟨fn,h1,h2,h3,h4⟩
section
variable{α γ:Type}{P:Program}{k0 f:Nat}{args env:List AV}{s:iw}{d:Option Nat}{R:List AV->iw->Prop}{x:Option α}{β:Type}{K:α->Option β}{r:β}{q:α->Prop}
end
attribute [go_sem] List.set_cons_zero List.set_cons_succ
attribute [go_sem] ne_eq not_false_eq_true
section
variable{α γ:Type}[Inhabited α]{f:α->D}{f':γ->D}{e e' n k0:Nat}{s:iw}{env:List AV}{xs:List α}{y y':α}{ys:List γ}{i k:Nat}
end
attribute [go_sem] Sum.elim_inl Sum.elim_inr
section
variable{P:Program}{k0 f:Nat}{args env:List AV}{s:iw}{d:Option Nat}{R:List AV->iw->Prop}
theorem DF{α1 α2 β:Type}{x:Option (α1⊕α2)}{K1:α1->Option β}{K2:α2->Option β}{r:β}{q1:α1->Prop}{q2:α2->Prop}(pr nw:List gJ){dz:List AV}{s1:iw}{t1:α1->iw}{t2:α2->iw}{y1:α1->AV}{y2:α2->AV}[i:iU x fun a=>iH P f dz s1 pr.length fun x s'=>x=Sum.elim y1 y2 a/\s'=Sum.elim t1 t2 a]
 (h:P4 x (Sum.elim K1 K2) r) (hk1:∀a,x=some (.inl a)->K1 a=some r->q1 a) (hk2:∀a,x=some (.inr a)->K2 a=some r->q2 a)
 (e1:∀a,R (iZ d env ((y1 a).lq (lX (pr++nw)))) (qi s (t1 a) (pr++nw) (pr++nw))=q1 a:=by intro a;first|((conv=>lhs;simp(maxSteps:=1000000) (disch:=omega)only[go_sem,lu,lp,mA,mz,bF,bh,bA,Nat.reduceAdd,Nat.reduceSub,Nat.reduceLeDiff,Nat.reduceEqDiff,Nat.reduceLT,Int.reduceToNat,reduceIte,reduceCtorEq])<;>rfl)|rfl)
 (e2:∀a,R (iZ d env ((y2 a).lq (lX (pr++nw)))) (qi s (t2 a) (pr++nw) (pr++nw))=q2 a:=by intro a;first|((conv=>lhs;simp(maxSteps:=1000000) (disch:=omega)only[go_sem,lu,lp,mA,mz,bF,bh,bA,Nat.reduceAdd,Nat.reduceSub,Nat.reduceLeDiff,Nat.reduceEqDiff,Nat.reduceLT,Int.reduceToNat,reduceIte,reduceCtorEq])<;>rfl)|rfl)
 (h1:pr.map (·.1)=List.range pr.length:=by rfl) (h2:((pr++nw).map (·.1)).Nodup:=by decide) (h3:((pr++nw).map (·.2)).Nodup:=by decide)
 (h4:∀p∈nw,sat s p.2=.dead/\k0<=p.2:=by simp[sat]) (ha:iY (args.map fun x=>x.lq (om pr)) dz:=by exact lM) (hs:lg (mg s pr pr) s1:=by exact lM):mu P k0 f args env s d R:=by
 obtain⟨a,g1,g2⟩:=bind_some h;cases a with
 |inl a=>exact E1 pr nw (i.c g1) h1 h2 h3 h4 ha hs ((e1 a).symm▸hk1 a g1 g2)
 |inr a=>exact E1 pr nw (i.c g1) h1 h2 h3 h4 ha hs ((e2 a).symm▸hk2 a g1 g2)
end
theorem Iw{l:List AV}{c x:AV}{n:Nat}:(c::l).getD (1+n) x=l.getD n x:=by rw[cS];rfl
theorem Jf{l:List AV}{c:AV}{n:Nat}:List.take (1+n) (c::l)=c::List.take n l:=by rw[cS];rfl
attribute [go_sem] Iw Jf
theorem Cr{α:Type}{f:α->D}{xs:List α}{i:Nat}{a c:AV}{v:α}(h:i<xs.length)(hle:AV.le a (.d (f v))):
 iY (c::(List.map (aD f) (List.take i xs)++[a]++List.map (aD f) (List.drop (1+i) xs))) (c::(xs.set i v).map (aD f)):=by
 rw[cS 1 i];exact⟨AV.le_refl _,GO h hle⟩
def MI(K:Nat)(Q:Post)(e:Exit)(env env':List AV)(s':iw):Prop:=∃s'',(∃env'',iV K env' s' env'' s'')/\Q e env s''
theorem MI.of{K:Nat}{Q:Post}{e:Exit}{env env' env'':List AV}{s' s2:iw}(hw:iV K env' s' env'' s2)(h:Q e env s2):MI K Q e env env' s':=⟨s2,⟨_,hw⟩,h⟩
section
variable{P:Program}{k:Nat}{Q:Post}{env:List AV}{s:iw}
theorem Vt{ι:Type}{K:Nat}{env env':List AV}{s':iw}{S:ι->iw}{next:ι->Prop}:G9 K env S next Q .ret env' s'=MI K Q .ret env env' s':=(rfl)
end
attribute [go_sem] Vt
theorem NU{α:Type}{n:Nat}{xs:List α}:Ln n xs.length=(List.take n xs).length:=(bY).symm
theorem NS{α:Type}{f:α->D}{e n:Nat}[xd f e]{xs:List α}:QT n e (kT f xs)=kT f (List.take n xs):=by
 unfold QT;induction xs generalizing n with
 |nil=>simp[kT]
 |cons x xs ih=>
  cases n with
  |zero=>simp[kT]
  |succ n=>rw[dg,sx,sx,Nat.succ_mul,cS,List.take_append,cg (by rw[xd.len (f:=f)];omega),xd.len (f:=f),dI,ih]
attribute [go_sem] NU NS
section
variable{E:Ending->Value->Prop}{P:Program}{f:Nat}
theorem oT.args{args dz:List AV}{s:iw}{k:Nat}{R:AV->iw->Prop}(h:oT E P f dz s k R)(hl:iY args dz):oT E P f args s k R:=
 fun C vs h1 h2 h3 h4=>h C vs h1 h2 h3 (hl.iP h4)
theorem oT.Uc{dz:List AV}{s s1:iw}{k:Nat}{R:AV->iw->Prop}(h:oT E P f dz s1 k R)(hs:lg s s1):oT E P f dz s k R:=fun C vs h1 h2 h3 h4=>by
 subst h1;have hs':=hs.sat;obtain⟨h5,h6⟩:=h3.told hs';refine(h {C with s:=s1} vs rfl h2 ((Inv.ctx hs').1 h5) (by
  show AV.iP C.β (Ctx.iz {C with s:=s1} C.β s1) C.w dz vs.toList;have:Ctx.iz {C with s:=s1} C.β s1=C.iz C.β C.s:=h6;rw[this];exact h4)).mono fun e w' ⟨v,x,β',s',e1,e2,e3,e4⟩=>⟨v,x,β',s',e1,(Inv.ctx hs').2 e2,e3,e4⟩
end
def Bm{α1 α2:Type}(pv:Value)(P:Program)(f:Nat)(args:List AV)(s:iw)(k:Nat)(y1:α1->AV)(t1:α1->iw)(t2:α2->iw)(a:α1⊕α2):Prop:=
 oT (XE pv) P f args s k fun x s'=>x=Sum.elim (fun a=>.mB [y1 a,okB true]) (fun _=>.mB [okB false,okB false]) a/\s'=Sum.elim t1 t2 a
theorem oT.done{E:Ending->Value->Prop}{P:Program}{f:Nat}{args:List AV}{s:iw}{k:Nat}{y:AV}{t:iw}(h:oT E P f args s k fun x s'=>jA k x s' y t):oT E P f args s k fun x s'=>x=y/\s'=t:=fun C vs h1 h2 h3 h4=>
 (h C vs h1 h2 h3 h4).mono fun _ w' ⟨v,_,β',_,e1,e2,e3,e4⟩=>let⟨β2,h5,h6⟩:=e4 C β' w' v h2 e2 e3;⟨v,y,β2,t,e1,h5,h6,rfl,rfl⟩
theorem kS.Su{pv:Value}{P:Program}{f:Nat}{mc:ir}{n:Nat}{rs:List sW}(h:kS P f mc n rs){args:List AV}{s:iw}{k:Nat}{α1 α2:Type}{y1:α1->AV}{t1:α1->iw}{t2:α2->iw}{a:α1⊕α2}
 (hm:ot P k mc (Gr pv rs fun x s'=>jA k x s' (Sum.elim (fun a=>.mB [y1 a,okB true]) (fun _=>.mB [okB false,okB false]) a) (Sum.elim t1 t2 a)) (args++List.replicate (n-args.length) .iG) s):
 Bm pv P f args s k y1 t1 t2 a:=oT.done (h.VT hm)
theorem sy.call{α1 α2 β:Type}{x:Option (α1⊕α2)}{K1:α1->Option β}{K2:α2->Option β}{r:β}{pv:Value}{P:Program}{k0:Nat}{Q:Post}{d:Option Nat}{f:Nat}{args:List Operand}{env:List AV}{s:iw}(pr nw:List gJ){dz:List AV}{s1:iw}{t1:α1->iw}{t2:α2->iw}{y1:α1->AV}
 [i:iU x fun a=>Bm pv P f dz s1 pr.length y1 t1 t2 a] (h:P4 x (Sum.elim K1 K2) r)
 (hk1:∀a,x=some (.inl a)->K1 a=some r->Q .normal (iZ d env ((y1 a).lq (lX (pr++nw)))) (qi s (t1 a) (pr++nw) (pr++nw)))
 (hk2:∀a,x=some (.inr a)->K2 a=some r->Q (Yz pv) env (qi s (t2 a) (pr++nw) (pr++nw)))
 (h1:pr.map (·.1)=List.range pr.length) (h2:((pr++nw).map (·.1)).Nodup) (h3:((pr++nw).map (·.2)).Nodup)
 (h4:∀p∈nw,sat s p.2=.dead/\k0<=p.2) (ha:iY ((args.map (ev env)).map fun x=>x.lq (om pr)) dz) (hs:lg (mg s pr pr) s1):sy P k0 pv Q ⟨d,.ke f args,none⟩ env s:=by
 obtain⟨a,g1,g2⟩:=bind_some h;refine⟨pr,nw,_,h1,h2,h3,h4,(oT.Uc (i.c g1) hs).args ha,fun x s' ⟨e1,e2⟩=>?_⟩;subst e1 e2;cases a with
 |inl a=>
  refine⟨(y1 a).lq (lX (pr++nw)),true,?_,fun _=>hk1 a g1 g2,fun e=>by cases e⟩;simp only[ei,AV.lq,AV.jk,okB]
 |inr a=>
  refine⟨okB false,false,?_,fun e=>Bool.noConfusion e,fun _=>hk2 a g1 g2⟩;simp only[eO,AV.lq,AV.jk,okB]
theorem sy.D3{pv:Value}{P:Program}{k0:Nat}{Q:Post}{x:Operand}{env:List AV}{s:iw}{t:Nat}{u:Value}(hx:ev env x=.d (.lit (.iface t u)))(hp:pv=.iface t u)(h:Q (Yz pv) env s):sy P k0 pv Q ⟨none,.D3 x,none⟩ env s:=by
 subst hp;exact⟨hx,⟨t,u,rfl⟩,h⟩
section
variable{P:Program}{k:Nat}{Q:Post}{env:List AV}{s:iw}{K:List AV->iw->Prop}{pv:Value}
theorem UL{rs:List sW}{R:AV->iw->Prop}:Gr pv rs R .normal env s=vT env s rs fun xs=>R (.mB [tI xs,okB true]) s:=(rfl)
theorem UM{rs:List sW}{R:AV->iw->Prop}:Gr pv rs R .ret env s=vT env s rs fun xs=>R (.mB [tI xs,okB true]) s:=(rfl)
attribute [go_sem] UL UM okB
def Lh(ms:List iO)(after:List gT)(pv:Value)(P:Program)(k:Nat)(Q:Post)(m0:iO)(acc:List (List Nat×List Nat))(env:List AV)(s:iw):Prop:=vh ms after acc.reverse=true/\sy P k pv Q m0 env s
theorem Lh.of{ms:List iO}{af:List gT}{m0:iO}{acc:List (List Nat×List Nat)}(h1:vh ms af acc.reverse=true)(h2:sy P k pv Q m0 env s):Lh ms af pv P k Q m0 acc env s:=⟨h1,h2⟩
theorem Rf{ms:List iO}{m0:iO}{after:List gT}(pv:Value)(hP:P.follows .mixedOrders=true)(hg0:m0.guard=none)
 (hlast:((List.range ms.length).all fun i=>((Gf after).getD ms.length []).contains i)=true) (h:vz P k (Lh ms after pv P k Q m0) ms [] env s):ot P k (.draw (ms++[m0]) after) Q env s:=Rg pv hP hg0 hlast h
theorem E5{rs:List sW}{R:AV->iw->Prop}(h:R (.mB [okB false,okB false]) s):Gr pv rs R (Yz pv) env s:=⟨rfl,h⟩
end
theorem iH.Ve{P:Program}{f:Nat}{args:List AV}{s:iw}{k:Nat}{R:AV->iw->Prop}(j id t e:Nat){e0:Nat}(hd:sat s id=.dead)(hj:args[j]?=some (.d (.sl e0 (some true) [])))
 (h:iH P f (args.set j (.own e id [])) (sset s id (.tok t e 0)) (k+1) R) (hid:k<=id:=by decide):iH P f args s k R:=fun C vs h1 h2 h3 h4=>by
 subst h1;subst h2;have hst:St C C.β [] C.s {tmps:=#[],defers:=[]} C.w:=⟨.nil,h3,rfl,fun i x hx=>by simp at hx⟩;obtain⟨g1,m⟩:=hst.DT (id:=id) (t:=t) (e:=e) hd;have hI:=g1.inv;let C2:Ctx:={C with β:=iA C.β id (.tok tJ 0),s:=sset C.s id (.tok t e 0),w:=C.w,k:=C.k+1};have hI2:Inv C2 C2.β C2.s C2.w:=hI.here (K:=C.k+1);have hargs:AV.iP C2.β (C2.iz C2.β C2.s) C2.w (args.set j (.own e id [])) vs.toList:=by
  refine Fl hj (fun v hv=>?_) (m.iP h4);simp only[AV.ok]at hv;rw[Dz hv];exact Cx (by simp[C2,iA])
 refine(h C2 vs rfl rfl hI2 hargs).mono fun e w' ⟨v,x,β',s',e1,e2,e3,e4⟩=>⟨v,x,β',s',e1,?_,e3,e4⟩
 exact hI.back e2 (gq _)
theorem N4{P:Program}{l:Nat}{pre post:List iO}{d q0:Nat}{want:Bool}{g:Operand}{args:List Operand}{Q:uJ}{env:List AV}{x:List D}{r:List (List D)}
 (hpre:vA P 0 pre env [] (fun env' s'=>∃env1,iV 0 env' s' env1 []/\AV.jk (fun _=>none) env1=env1/\ev env1 g=.d (.lit (.func (.yield l) #[] #[]))/\args.map (ev env1)=x.map .d/\env1.getD q0 .iG=.d (.lit (.bool want))/\
  ∀b,vA P 0 post (env1.set d (.d (bD b))) [] (fun env' s'=>∃env2,iV 0 env' s' env2 []/\AV.jk (fun _=>none) env2=env2/\Q .normal env2 (if b then some r else none)))):
 D7 P l (.ie (pre++⟨some d,.qW g args,some (some q0,want)⟩::post)) Q env (some (x::r)):=fun c hc els J Jx hJ n X a W hst hl=>by
 obtain⟨rid,ops,rfl,mops⟩:=Dx (ms:=(pre++⟨some d,.qW g args,some (some q0,want)⟩::post).map iO.erase) hc;have hlen:ops.size=pre.length+(1+post.length):=by
  have:=(wS mops).1;simp at this;omega
 obtain⟨t1,t2⟩:=BG pre.length mops;have e1:(List.map iO.erase (pre++⟨some d,.qW g args,some (some q0,want)⟩::post)).take pre.length=pre.map iO.erase:=by rw[aR];exact fy (by simp)
 have e2:(List.map iO.erase (pre++⟨some d,.qW g args,some (some q0,want)⟩::post)).drop pre.length=(⟨some d,.qW g args,some (some q0,want)⟩::post).map iO.erase:=by rw[aR];exact List.drop_left' (by simp)
 rw[e1]at t1;rw[e2]at t2;obtain⟨t3,t4⟩:=BG 1 t2;rw[List.drop_drop]at t4;simp only[aO,dg,eU,List.drop_succ_cons,bF]at t3 t4;have hlt:pre.length<ops.toList.length:=by simp;omega
 rw[aE hlt]at t3;simp only[dg,eU,cq,List.mapM_nil,cm,dL,aq,aL]at t3;obtain⟨m0,q6,_,rfl,q6'⟩:=t3;simp only[bV,and_true]at q6';subst q6';have g6:ops[pre.length]?=some ops.toList[pre.length]:=by simp at hlt;simp[hlt]
 generalize ops.toList[pre.length]=o6 at q6 g6;obtain⟨p6,d6,gd6⟩:=wh q6;have hmo6:kM P o6=some (.qW g args):=by
  cases hq:kM P o6 with
  |some y=>rw[hq]at p6;rw[show y=sH.qW g args from p6.symm]
  |none=>rw[hq]at p6;cases p6
 obtain⟨cl,hop6,hcal,hargs6⟩:=Ih hmo6;obtain⟨j6,hgd6,hj6⟩:∃j,o6.guard=some (j,want)/\(ops[j]?).bind (·.dst)=some q0:=by
  cases hq:o6.guard with
  |none=>rw[hq]at gd6;cases gd6
  |some x=>
   rw[hq]at gd6;simp only[iO.erase,aM,aL,dX]at gd6;exact⟨x.1,by rw[gd6.2],gd6.1.symm⟩
 have hdst6:o6.dst=some d:=d6.symm;obtain⟨hn,hdr,hJn⟩:=hl;have hnl:n<els.length:=by
  rcases cF n els.length with h|h
  ·exact h
  ·rw[bM h]at hdr;cases hdr
 have hx:els.getD n []=x/\els.drop (n+1)=r:=by
  rw[aE hnl]at hdr;simp only[bV]at hdr;exact⟨by rw[List.getD_eq_getElem?_getD,az hnl];exact hdr.1,hdr.2⟩
 refine wpIn_region ?_;rw[hlen,dU];refine DW (C:=zk X W) (m:=1+post.length) pre.length 0 pre _ [] (by rw[hlen];omega) (by rw[bF];exact t1) hpre _ a W hst fun β' env' s' a4 W4 hst4 hK0=>?_
 obtain⟨env4,hw4,hid4,hyv4,hargs4,hq4,hpost⟩:=hK0;obtain⟨β4,hst4'⟩:=hw4 (zk X W) β' a4 W4 rfl hst4;have hg4:W.grownBy W4 none:=zk.grown hst4.inv;have hst5:=hst4'.again (W2:=W4) (X:=X) (Ext.refl _) hid4 (fun b o h=>cx (hst.inv.low b o h).1 hg4.size) (fun b o v h h'=>⟨h,h'⟩);have hJ4:=hJ.jn _ _ _ _ hJn hg4;rw[ck,show 1+post.length=post.length+1 by omega,dV];rw[wpOpsIn];rw[g6];simp only;have hwant:Region.wanted o6 (yielded ops a4.tmps)=true:=by
  simp only[Region.wanted,hgd6];rw[A_ hst5 hj6 hq4];simp
 rw[ah hwant];refine⟨fun _ _=>trivial,?_⟩;have hnd:∀c,o6.op≠ .defer c:=by rw[hop6];simp
 have hyv:a4.eval g=.func (.yield l) #[] #[]:=by
  have:=hst5.ev g;rw[hyv4]at this;exact qy this
 rw[eG _ _ _ hnd,Mg (l:=l) hop6 hcal hyv];have hoks:AV.iP (fun _=>.no) X W4 ((els.getD n []).map .d) (cl.args.map a4.eval).toList:=by
  have:=Bv hst5 args;rw[hargs4,zk.iz]at this;rw[hx.1,dH,hargs6];exact this
 obtain⟨fn',tmps',dz',bd',hy,hR⟩:=hJ.round n X W4 _ hnl hJ4 hoks;rw[hy,Oper.uponIn_round];refine⟨(fun h=>by cases h),RoundIn.mono hR ?_⟩;rintro e5 W5 ⟨X5,hres5,hX5,hk5⟩;obtain⟨bb,rfl,hJ5⟩:∃bb,e5=.returned (.bool bb)/\Live els J Jx (n+1) X5 W5 (if bb then some r else none):=by
  rcases hres5 with⟨h1,h2⟩|⟨h1,h2⟩
  ·exact⟨true,h1,hnl,hx.2,h2⟩
  ·exact⟨false,h1,n,hnl,h2⟩
 show wpOpsIn Fence.wide 0 P ops _ (List.range' (pre.length+1) post.length) (a4.put o6.dst (.bool bb)) W5;rw[hdst6];have hst6:St (zk X5 W5) (fun _=>.no) (env4.set d (.d (bD bb))) [] (a4.put (some d) (.bool bb)) W5:=
  (hst5.again (Ext.refl _) hid4 hX5 hk5).put (x:=.d (bD bb)) (v:=.bool bb) (by simp[AV.ok,bD,D.ok,one]) (some d)
 have:=DW (C:=zk X5 W5) (Q:=fun e a' W'=>∃n' X' env' r',St (zk X' W') (fun _=>.no) env' [] a' W'/\Live els J Jx n' X' W' r'/\Q e env' r') (m:=0) post.length (pre.length+1) post _ [] (by rw[hlen];omega) (by rw[cg (by simp;omega)];exact t4) (hpost bb) _ _ W5 hst6 fun β' env' s' a7 W7 hst7 hK0=>?_
 ·rw[dy]at this;exact this
 obtain⟨env7,hw7,hid7,hQ7⟩:=hK0;obtain⟨β7,hst7'⟩:=hw7 (zk X5 W5) β' a7 W7 rfl hst7;have hg7:W5.grownBy W7 none:=zk.grown hst7.inv;have hst8:=hst7'.again (W2:=W7) (X:=X5) (Ext.refl _) hid7 (fun b o h=>cx (hX5 b o h) hg7.size) (fun b o v h h'=>⟨h,h'⟩);exact⟨n+1,X5,env7,_,hst8,hJ5.grow hJ hg7,hQ7⟩
def AV.RM(id:Nat)(ds:List D):AV->AV
 |.ptr j off=>if j=id then .pv (ds.drop off)else .ptr j off
 |x=>x.lq (iM id)
theorem iV.RM{k:Nat}{env:List AV}{s:iw}(id:Nat){t:Nat}{ds:List D}(hid:k<=id)(ho:sat s id=.obj t (ds.map .d)):iV k env s (env.map (AV.RM id ds)) (jD id s):=fun C β a w hC hst=>by
 subst hC;have hi:=hst.inv;have hob:=hi.obs id;rw[ho]at hob;obtain⟨b,us,hb,hh,hone,pre,rst,hus,hpre⟩:=hob;have h2:=hi.kill id hid;have hblk:ig β s id b:=by unfold ig;rw[ho];exact hb
 have hnot:∀o,¬C.iz (iA β id .no) (jD id s) b o:=fun o hq=>by
  rcases hq with hq|hq
  ·have h1:=hi.low b o hq;have hown:own β s b o:=⟨id,by rw[ho];exact hb⟩;rcases hi.qd b o hown with h3|h3
   ·exact h1.2 h3
   ·omega
  ·obtain⟨j,hj⟩:=hq.block;have hj1:=sY hj;have hji:j≠id:=fun e=>by subst e;unfold ig at hj;rw[qQ,ah rfl]at hj;exact hj
   exact hji (hi.inj j id b hj1 hblk)
 have dm:∀{x:D}{u:Value},D.ok (C.iz β s) w x u->D.ok (C.iz (iA β id .no) (jD id s)) w x u:=fun{x u} hx=>D.jY (fun b o v hc hn'=>⟨hc,fun h=>hn' (h.imp (fun x=>x) ug)⟩) _ _ hx
 refine⟨_,hst.defers,h2,by rw[aT];exact hst.len,fun i x hx=>?_⟩;rw[bz]at hx;obtain⟨y,hy,rfl⟩:=ay.1 hx;have hyo:=hst.env i y hy;have gen:∀z:AV,(∀j off,z≠ .ptr j off)->AV.RM id ds z=z.lq (iM id):=fun z hz=>by
  cases z<;>first|rfl|exact absurd rfl (hz _ _)
 by_cases hp:∃j off,y=.ptr j off
 ·obtain⟨j,off,rfl⟩:=hp;simp only[AV.RM];by_cases hj:j=id
  ·subst hj;rw[ah rfl];simp only[AV.ok]at hyo;obtain⟨b2,hb2,hv⟩:=hyo;rw[hb]at hb2;cases hb2;rw[hv];have hl:=AV.iQ hpre;have hp2:=(AV.jI.1 hpre).2;refine⟨b,off,pre.drop off,rfl,fun q u hq=>?_,?_⟩
   ·rw[cy]at hq;have hq2:us.toList[off+q]?=some u:=by rw[hus,aW (aN.1 hq).1];exact hq
    refine⟨?_,hnot _,hone u (bO hq2)⟩;simp only[World.cell?,hh,cw,ak,aB];simpa using hq2
   ·refine D.jI.2 ⟨by simp at hl;simp[hl],fun q x u hx hu=>?_⟩;rw[cy]at hx hu;have hu2:us.toList[off+q]?=some u:=by rw[hus,aW (aN.1 hu).1];exact hu
    refine⟨hone u (bO hu2),?_⟩;have:=hp2 (off+q) (.d x) u (by rw[bz,hx];rfl) hu;simp only[AV.ok]at this;exact dm this
  ·rw[aj hj];have:=uQ (id:=id) hyo;simpa only[AV.lq,iM,aj hj]using this
 ·rw[gen y fun j off e=>hp ⟨j,off,e⟩];exact uQ hyo
section
variable{id:Nat}{ds:List D}
theorem OK:AV.RM id ds .iG=.iG:=(rfl)
theorem YC{x:D}:AV.RM id ds (.d x)=.d x:=(rfl)
theorem Vp{xs:List D}:AV.RM id ds (.pv xs)=.pv xs:=(rfl)
theorem RN{j off:Nat}:AV.RM id ds (.ptr j off)=if j=id then .pv (ds.drop off)else .ptr j off:=(rfl)
end
attribute [go_sem] OK YC Vp RN jD
theorem N1{P:Program}{ρ:Go.Shelf.Ren}(L:Go.Proofs.Lays8.n4 P ρ){i0:TypeInfo}{z:Value}(hi0:P.info? (ρ.t 25)=some i0)(hz0:i0.zero=some z)(hs0:0<i0.size)(hb0:0<i0.bytes)
 (hz1:z.cells.size=i0.size) (hz2:∀v∈z.cells.toList,one v=true) {n:Int} (h0:0<=n) (hb:n*i0.bytes<=140737488355328):
 iH P (ρ.f 4) [.d (.sl 0 (some true) []),.d (iD n)] [] 0 fun x s'=>x=.own i0.size 0 []/\s'=[(0,.tok (ρ.t 25) i0.size 0)]:=fun C vs hs hk hinv hargs=>by
 obtain⟨m,rfl⟩:=fo h0;have hst:St C C.β [] C.s {tmps:=#[],defers:=[]} C.w:=⟨.nil,hinv,rfl,fun i x hx=>by simp at hx⟩;have hvs:vs=#[.slice none 0 0,.int .i64 m]:=by
  simp only[AV.iP,AV.ok]at hargs;obtain⟨v,r,h1,h2,v2,r2,h3,h4,h5⟩:=hargs;have h2:=Dz h2;have h4:=qy (β:=C.β) (O:=C.iz C.β C.s) (w:=C.w) (by simp only[AV.ok];exact h4);subst h2 h4 h5 h3;exact dF (by simpa[tJ]using h1)
 subst hvs;have hd:sat C.s 0=.dead:=by rw[hs];rfl
 rcases fO m with rfl|hm
 ·refine(Go.Proofs.Any8.slices_Grow_room L none 0 0 0 C.w (aA _) h_ h_ h_).mono ?_;rintro e w' ⟨rfl,rfl⟩;obtain⟨h1,_⟩:=hst.DT (id:=0) (t:=ρ.t 25) (e:=i0.size) hd;rw[hs]at h1;exact⟨_,.own i0.size 0 [],_,_,rfl,h1.inv,Cx (by simp[iA]),rfl,rfl⟩
 ·have hmb:m*i0.bytes<=140737488355328:=by
   have:((m*i0.bytes:Nat):Int)<=140737488355328:=by simpa using hb
   omega
  have hm47:m<=140737488355328:=cp (cO _ hb0) hmb;refine(Go.Proofs.Any8.slices_Grow_grow L i0 z hi0 hz0 hs0 none 0 0 m [] C.w (aA _) h_ (by simpa using hmb) h_ (by simp) (by simp) (by simp)).mono ?_;rintro e w' ⟨rfl,rfl⟩;have hcap1:=grownCap_ge C.w (0+m) 0 (ρ.t 25);have hcap2:=eY C.w (0+m) 0 (ρ.t 25) (by unfold Go.maxLen;omega);obtain⟨β',h1,h2⟩:=xD hst.drew (id:=0) (t:=ρ.t 25) (e:=i0.size) (n:=0) (cap:=grownCap C.w (0+m) 0 (ρ.t 25))
   (c:=([]:List Value).toArray++Builtin.zeroCells z.cells (0+m-0)++Builtin.zeroCells z.cells (grownCap C.w (0+m) 0 (ρ.t 25)-(0+m))) (xs:=[])
   (by have:=hst.inv.obs 0;rw[hd]at this;rw[show C.β 0=.no from this];trivial)
   (by
    rw[dR,dR,fI,fI,hz1];simp only[dz,bL,ck,Nat.sub_zero];rw[<-bQ];congr 1;simp only[ck]at hcap1;omega)
   (cW _) (by unfold Go.maxLen at hcap2;omega)
   (fun v hv=>by
    simp only[Array.toList_append,aF]at hv;rcases hv with(hv|hv)|hv
    ·simp at hv
    ·exact rL hz2 _ v hv
    ·exact rL hz2 _ v hv)
   rfl (fun _ _ _ _=>by simp[D.row])
  rw[hs]at h1 h2;exact⟨_,.own i0.size 0 [],β',_,rfl,h1.inv,h2,rfl,rfl⟩
end ng
