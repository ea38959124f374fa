/- A part of the proof about FnExactJoinsAll (LaShal, LaLend, LaDeep, LaSplit, LaIter, LaPriv, LaThaw, Grow). -/
import Derived.Test.YtjgbnaihpicpgaaGreatDoorTb
import Derived.KernelRfl
import Derived.Shelf.Spec.SlicesGrow
set_option linter.all false
noncomputable section
namespace lY
open Go
def DL(x y:D):Prop:=∀O w v,D.ok O w x v->D.ok O w y v
def Tl:List D->List D->Prop
 |[],[]=>True
 |x::xs,y::ys=>DL x y/\Tl xs ys
 |_,_=>False
theorem DL.refl(x:D):DL x x:=fun _ _ _ h=>h
theorem DL.forget{e:Nat}{nl:Option Bool}{xs:List D}:DL (.sl e nl xs) (.sl e none xs):=fun _ _ _ h=>by
 simp only[D.ok]at h⊢;obtain⟨a,cap,h1,h2,_,h4⟩:=h;exact⟨a,cap,h1,h2,trivial,h4⟩
theorem DL.nil{e e':Nat}{nl:Option Bool}:DL (.sl e nl []) (.sl e' none []):=fun _ _ _ h=>by
 simp only[D.ok]at h⊢;obtain⟨a,cap,h1,h2,_,h4⟩:=h;exact⟨a,cap,h1,h2,trivial,by simp⟩
theorem Tl.ir{O:Own}{w:World}:∀{xs ys:List D}{vs:List Value},Tl xs ys->D.ir O w xs vs->D.ir O w ys vs
 |[],[],_,_,h=>h
 |_::_,_::_,_,hl,h=>by
  simp only[D.ir]at h⊢;obtain⟨v,r,h1,h2,h3,h4⟩:=h;exact⟨v,r,h1,h2,hl.1 _ _ _ h3,Tl.ir hl.2 h4⟩
 |[],_::_,_,hl,_=>hl.elim
 |_::_,[],_,hl,_=>hl.elim
theorem DL.agg{xs ys:List D}(h:Tl xs ys):DL (.agg xs) (.agg ys):=fun _ _ _ hv=>by
 simp only[D.ok]at hv⊢;obtain⟨vs,h1,h2⟩:=hv;exact⟨vs,h1,h.ir h2⟩
theorem AV.wI{x y:D}(h:DL x y):AV.le (.d x) (.d y):=fun _ _ _ _ hv=>by simp only[AV.ok]at hv⊢;exact h _ _ _ hv
theorem AV.Qb{e id:Nat}{xs:List D}{y:D}(h:DL (.sl e none xs) y):AV.le (.own e id xs) (.d y):=fun _ _ _ _ hv=>by simp only[AV.ok]at hv⊢;exact h _ _ _ hv.1
theorem AV.zc{xs ys:List AV}(h:iG xs ys):AV.le (.agg xs) (.agg ys):=fun _ _ _ _ hv=>by
 simp only[AV.ok]at hv⊢;obtain⟨vs,h1,h2,h3⟩:=hv;exact⟨vs,h1,h2,h.ir h3⟩
theorem zW{β:gZ}{O:Own}{w:World}:∀{ys:List D}{vs:List Value},(∀u∈vs,one u=true)->AV.ir β O w (ys.map .d) vs->D.ir O w ys vs
 |[],_,_,h=>by simpa[AV.ir,D.ir]using h
 |y::ys,vs,h1,h=>by
  simp only[aN,AV.ir,D.ir]at h⊢;obtain⟨v,r,rfl,h2,h3⟩:=h;exact⟨v,r,rfl,h1 v (by simp),by simpa[AV.ok]using h2,zW (fun u hu=>h1 u (by simp[hu])) h3⟩
theorem AV.uY{xs:List AV}{ys:List D}(h:iG xs (ys.map .d)):AV.le (.agg xs) (.d (.agg ys)):=fun _ _ _ _ hv=>by
 simp only[AV.ok,D.ok]at hv⊢;obtain⟨vs,h1,h2,h3⟩:=hv;exact⟨vs,h1,zW h2 (h.ir h3)⟩
theorem AV.xJ{xs ys:List AV}(h:iG xs ys):AV.le (.lE xs) (.lE ys):=fun _ _ _ _ hv=>by
 simp only[AV.ok]at hv⊢;obtain⟨vs,h1,h3⟩:=hv;exact⟨vs,h1,h.ir h3⟩
theorem HM{e e':Nat}{nl:Option Bool}:AV.le (.d (.sl e nl [])) (.d (.sl e' none []))<->True:=⟨fun _=>trivial,fun _=>AV.wI DL.nil⟩
theorem E_(x:D):DL x x<->True:=⟨fun _=>trivial,fun _=>DL.refl x⟩
theorem GS{e e':Nat}{nl:Option Bool}:DL (.sl e nl []) (.sl e' none [])<->True:=⟨fun _=>trivial,fun _=>DL.nil⟩
theorem KK{xs:List AV}{ys:List D}(h:iG xs (ys.map .d)):AV.le (.agg xs) (.d (.agg ys))<->True:=⟨fun _=>trivial,fun _=>AV.uY h⟩
theorem M4{xs ys:List AV}(h:iG xs ys):AV.le (.lE xs) (.lE ys)<->True:=⟨fun _=>trivial,fun _=>AV.xJ h⟩
def To(x y:AV):Prop:=x=y\/((∀d,x≠ .dp d)/\(∀d,y≠ .dp d)/\AV.le x y)\/∃e0 e,x=.d (.sl e0 (some true) [])/\y=.dp (.sl e none [])
def sM:List AV->List AV->Prop
 |[],[]=>True
 |x::xs,y::ys=>To x y/\sM xs ys
 |_,_=>False
theorem sM.refl:∀xs:List AV,sM xs xs
 |[]=>trivial
 |x::xs=>⟨.inl rfl,sM.refl xs⟩
theorem sM.length:∀{xs ys:List AV},sM xs ys->xs.length=ys.length
 |[],[]=>fun _=>rfl
 |x::xs,y::ys=>fun h=>by simp[sM.length h.2]
 |[],_::_=>fun h=>h.elim
 |_::_,[]=>fun h=>h.elim
theorem To.nx{β:gZ}{O:Own}{w:World}{x y:AV}{v:Value}{bs:List Nat}(h:To x y)(hx:NX β O w x v bs):NX β O w y v bs:=by
 rcases h with rfl|⟨h1,h2,h3⟩|⟨e0,e,rfl,rfl⟩
 ·exact hx
 ·exact hx.imp (x':=y) (fun _ _=>rfl) (.inr ⟨h1,h2,h3 _ _ _ _⟩)
 ·obtain⟨h1,h2⟩:=hx;have h1:AV.ok β O w (.d (.sl e0 (some true) [])) v:=h1;simp only[AV.ok,D.ok]at h1;obtain⟨a,cap,h3,h4,⟨rfl,rfl⟩,_⟩:=h1;show NV w (.sl e none []) v bs;simp only[NV];exact⟨none,0,h3,h4,trivial,.inl ⟨rfl,trivial,h2⟩⟩
theorem sM.ZE{β:gZ}{O:Own}{w:World}:∀{xs ys:List AV}{vs:List Value}{bs:List Nat},sM xs ys->rD β O w xs vs bs->rD β O w ys vs bs
 |[],[]=>fun _ h=>h
 |x::xs,y::ys=>fun hl h=>by
  simp only[rD]at h⊢;obtain⟨v,r,b1,b2,h1,h2,h3,h4⟩:=h;exact⟨v,r,b1,b2,h1,h2,hl.1.nx h3,sM.ZE hl.2 h4⟩
 |[],_::_=>fun h=>h.elim
 |_::_,[]=>fun h=>h.elim
def OC:List (Lit×D)->List (Lit×D)->Prop
 |[],[]=>True
 |(k,x)::r,(k',y)::r'=>k=k'/\AV.le (.d x) (.d y)/\OC r r'
 |_,_=>False
theorem OC.refl:∀es:List (Lit×D),OC es es
 |[]=>trivial
 |(_,_)::r=>⟨rfl,fun _ _ _ _ h=>h,OC.refl r⟩
theorem OC.get{kl:Lit}:∀{es es':List (Lit×D)},OC es es'->(xg es kl=none/\xg es' kl=none)\/∃x y,xg es kl=some x/\xg es' kl=some y/\AV.le (.d x) (.d y)
 |[],[],_=>.inl ⟨rfl,rfl⟩
 |(k,x)::r,(k',y)::r',h=>by
  obtain⟨rfl,h1,h2⟩:=h;unfold xg;by_cases hk:k=kl
  ·simp only[hk,aB];exact .inr ⟨x,y,rfl,rfl,h1⟩
  ·simp only[hk,aF];exact h2.get
 |[],_::_,h=>h.elim
 |_::_,[],h=>h.elim
theorem OC.ok{O:Own}{w:World}{P:Program}{k b:Nat}{es es':List (Lit×D)}(h:OC es es')(hm:zy O w P k es b):zy O w P k es' b:=by
 obtain⟨E,h1,h2⟩:=hm;refine⟨E,h1,fun kl=>?_⟩;have h3:=h2 kl;rcases h.get (kl:=kl)with⟨e1,e2⟩|⟨x,y,e1,e2,e3⟩
 ·rw[e1]at h3;rw[e2];exact h3
 ·rw[e1]at h3;rw[e2];obtain⟨v,k1,k2,k3⟩:=h3;exact⟨v,k1,k2,by have:=e3 (fun _=>.no) O w v (by simpa only[AV.ok]using k3);simpa only[AV.ok]using this⟩
def vF:Ob->Ob->Prop
 |.dead,.dead=>True
 |.obj t cs,.obj t' cs'=>t=t'/\iG cs cs'
 |.tok t e n,.tok t' e' n'=>t=t'/\e=e'/\n=n'
 |.kO t e n cs,.kO t' e' n' cs'=>t=t'/\e=e'/\n=n'/\iG (cs.map .d) (cs'.map .d)
 |.od t e n cs,.od t' e' n' cs'=>t=t'/\e=e'/\n=n'/\sM cs cs'
 |.lN e n cs,.lN e' n' cs'=>e=e'/\n=n'/\sM cs cs'
 |.mp P k es,.mp P' k' es'=>P=P'/\k=k'/\OC es es'
 |_,_=>False
def kj:gU->gU->Prop
 |[],[]=>True
 |(i,x)::r,(j,y)::r'=>i=j/\vF x y/\kj r r'
 |_,_=>False
theorem kj.sat:∀{s s':gU},kj s s'->∀id,vF (lY.sat s id) (lY.sat s' id)
 |[],[],_,_=>trivial
 |(i,x)::r,(j,y)::r',h,id=>by
  obtain⟨rfl,h1,h2⟩:=h;simp only[lY.sat];split
  ·exact h1
  ·exact h2.sat id
 |[],_::_,h,_=>h.elim
 |_::_,[],h,_=>h.elim
theorem iG.PN{O:Own}{w:World}:∀{xs ys:List D}{vs:List Value},iG (xs.map .d) (ys.map .d)->D.ir O w xs vs->D.ir O w ys vs
 |[],[],_,_,h=>h
 |x::xs,y::ys,_,hl,h=>by
  simp only[D.ir]at h⊢;obtain⟨v,r,h1,h0,h2,h3⟩:=h;refine⟨v,r,h1,h0,?_,iG.PN hl.2 h3⟩;have:=hl.1 (fun _=>.no) O w v (by simpa only[AV.ok]using h2);simpa only[AV.ok]using this
 |[],_::_,_,hl,_=>hl.elim
 |_::_,[],_,hl,_=>hl.elim
theorem iG.length':∀{xs ys:List D},iG (xs.map .d) (ys.map .d)->xs.length=ys.length
 |[],[],_=>rfl
 |x::xs,y::ys,hl=>by simp[iG.length' hl.2]
 |[],_::_,hl=>hl.elim
 |_::_,[],hl=>hl.elim
theorem Inv.told{C:Ctx}{β:gZ}{s s':gU}{w:World}(h:Inv C β s w)(hs:∀id,vF (sat s id) (sat s' id)):Inv C β s' w/\C.gX β s'=C.gX β s:=by
 have hown:∀b x,own β s' b x<->own β s b x:=fun b x=>by
  unfold own;refine exists_congr fun id=>?_
  have:=hs id;revert this;cases sat s id<;>cases sat s' id<;>intro h1<;>first|exact h1.elim|exact c_|skip
  ·obtain⟨_,rfl,rfl⟩:=h1;exact c_
  ·obtain⟨_,rfl,rfl,_⟩:=h1;exact c_
  ·obtain⟨_,rfl,rfl,_⟩:=h1;exact c_
  ·obtain⟨rfl,rfl,_⟩:=h1;exact c_
 have hblk:∀id b,gR β s' id b<->gR β s id b:=fun id b=>by
  unfold gR;have:=hs id;revert this;cases sat s id<;>cases sat s' id<;>intro h1<;>first|exact h1.elim|exact c_|skip
  ·obtain⟨_,rfl,rfl⟩:=h1;exact c_
  ·obtain⟨_,rfl,rfl,_⟩:=h1;exact c_
  ·obtain⟨_,rfl,rfl,_⟩:=h1;exact c_
  ·obtain⟨rfl,rfl,_⟩:=h1;exact c_
 have hf:C.gX β s'=C.gX β s:=by funext b o;exact propext (or_congr c_ (hown b o))
 refine⟨⟨h.size,h.io,h.gl,h.keep,h.oE,fun b o ho=>h.n_ b o ((hown b o).1 ho),fun id b hb=>h.qM id b ((hblk id b).1 hb),h.pl,h.low,fun id=>?_,
  fun i j b hi hj=>h.inj i j b ((hblk i b).1 hi) ((hblk j b).1 hj)⟩,hf⟩
 rw[hf];have h1:=h.obs id;have h2:=hs id;revert h1 h2;cases sat s id<;>cases sat s' id<;>intro h1 h2<;>first|exact h2.elim|exact h1|skip
 ·obtain⟨rfl,h2⟩:=h2;obtain⟨b,vs,h3,h4,h5,h6⟩:=h1;exact⟨b,vs,h3,h4,h5,h6.imp fun _ h=>h2.ir h⟩
 ·obtain⟨rfl,rfl,rfl⟩:=h2;exact h1
 ·obtain⟨rfl,rfl,rfl,h2⟩:=h2;obtain⟨u,h3,h4,h5⟩:=h1;refine⟨u,h3,h2.length'▸h4,?_⟩;rcases h5 with h5|⟨b,cap,vs,k1,k2,k3,k4,k5,k6,pre,rest,k7,k8⟩
  ·exact .inl h5
  ·exact .inr ⟨b,cap,vs,k1,k2,k3,k4,k5,k6,pre,rest,k7,h2.PN k8⟩
 ·obtain⟨rfl,rfl,rfl,h2⟩:=h2;obtain⟨u,bs,h3,h4,h5,h6⟩:=h1;refine⟨u,bs,h3,h4,h2.length▸h5,?_⟩;rcases h6 with h6|⟨b,cap,vs,k1,k2,k3,k4,k5,k6,k7,k8⟩
  ·exact .inl h6
  ·exact .inr ⟨b,cap,vs,k1,k2,k3,k4,k5,k6,k7,h2.ZE k8⟩
 ·obtain⟨rfl,rfl,h2⟩:=h2;obtain⟨u,bs,h3,h4,h5,h6⟩:=h1;refine⟨u,bs,h3,h4,h2.length▸h5,?_⟩;rcases h6 with h6|⟨b,cap,vs,t,k1,k2,k3,k4,k5,k6,k9,k7,k8⟩
  ·exact .inl h6
  ·exact .inr ⟨b,cap,vs,t,k1,k2,k3,k4,k5,k6,k9,k7,h2.ZE k8⟩
 ·obtain⟨rfl,rfl,h2⟩:=h2;obtain⟨b,h3,h4⟩:=h1;exact⟨b,h3,h2.ok h4⟩
theorem ij.U5{k:Nat}{env env':List AV}{s s':gU}(h:iG env env')(hs:kj s s'):ij k env s env' s':=fun C β a w hC hst=>by
 obtain⟨h1,hf⟩:=hst.inv.told hs.sat;obtain⟨h3,h4⟩:=h.get;exact⟨β,hst.defers,h1,by rw[hst.len,h3],fun i y hy=>by rw[hf];exact let⟨x,hx,hle⟩:=h4 i y hy;hle _ _ _ _ (hst.env i x hx)⟩
def AW(id:Nat):gU->gU
 |[]=>[]
 |(j,x)::r=>if j=id then AW id r else(j,x.kill id)::AW id r
theorem Ac(id j:Nat):∀s:gU,sat (AW id s) j=sat (iW id s) j
 |[]=>rfl
 |(i,x)::r=>by
  simp only[AW,iW];by_cases h:i=id
  ·subst h;simp only[aB,sat,Ac i j r];split
   ·rename_i h2;subst h2;rw[oC];simp
   ·rfl
  ·simp only[h,aF,sat,Ac id j r]
theorem ij.drop{k:Nat}{env:List AV}{s:gU}(id:Nat)(hid:k<=id):ij k env s (AV.iz (ic id) env) (AW id s):=
 (ij.kill id hid).trans (ij.S_ fun j=>(Ac id j s).symm)
theorem ng.mono{P:Program}{k:Nat}{mc:gV}{Q Q':Post}{env:List AV}{s:gU}(h:ng P k mc Q env s)(hq:∀e env s,Q e env s->Q' e env s):ng P k mc Q' env s:=
 fun C hC hf c hc β a w hst=>dJ (h C hC hf c hc β a w hst) fun e _ _ ⟨C',hx,β',env',s',h1,h2⟩=>⟨C',hx,β',env',s',h1,hq e env' s' h2⟩
def rA(P:Program)(k:Nat):gV->Post->List AV->gU->Prop
 |.skip,Q,env,s=>Q .normal env s
 |.gQ ms,Q,env,s=>vi P k (Q .normal) ms env s
 |.draw ms af,Q,env,s=>P.follows .mixedOrders=true/\uM P k (A7 ms af Q) ms [] env s
 |.seq a b,Q,env,s=>rA P k a (wj (fun env s=>rA P k b Q env s) Q) env s
 |.cond o a b,Q,env,s=>match ev env o with
  |.d (.lit (.bool t))=>if t=true then rA P k a Q env s else rA P k b Q env s
  |_=>False
 |.block id a,Q,env,s=>rA P k a (B2 id Q) env s
 |.loop x,Q,env,s=>ng P k (.loop x) Q env s
 |.exit id,Q,env,s=>Q (.exit id) env s
 |.ret,Q,env,s=>Q .ret env s
 |.dead,_,_,_=>False
 |.ghost x,Q,env,s=>∃env' s',ij k env s env' s'/\ng P k x Q env' s'
 |.Dv g ps a b,Q,env,s=>ng P k (.Dv g ps a b) Q env s
 |.scope a,Q,env,s=>rA P k a (SV Q) env s
 |.label,Q,env,s=>Q .normal env s
theorem gO{P:Program}{k:Nat}:∀{mc:gV}{Q:Post}{env:List AV}{s:gU},rA P k mc Q env s->ng P k mc Q env s
 |.skip,_,_,_,h=>T8 h
 |.gQ _,_,_,_,h=>Zs h
 |.draw _ _,_,_,_,h=>Ww h.1 h.2
 |.seq a b,Q,env,s,h=>WA (ng.mono (gO (mc:=a) h) fun e env s hq=>by
  cases e with
  |normal=>exact gO (mc:=b) hq
  |_=>exact hq)
 |.cond o a b,Q,env,s,h=>by
  simp only[rA]at h;split at h
  ·rename_i t ht;refine T1 ht ?_;unfold Br;split at h
   ·rename_i hb;rw[ah hb];exact gO (mc:=a) h
   ·rename_i hb;rw[ak hb];exact gO (mc:=b) h
  ·exact h.elim
 |.block id a,_,_,_,h=>Qg (gO (mc:=a) h)
 |.loop x,_,_,_,h=>h
 |.exit id,_,_,_,h=>T3 h
 |.ret,_,_,_,h=>Wy h
 |.dead,_,_,_,h=>h.elim
 |.ghost x,_,_,_,h=>let⟨_,_,hw,h⟩:=h;Qj hw h
 |.Dv _ _ _ _,_,_,_,h=>h
 |.scope x,_,_,_,h=>Qm (gO (mc:=x) h)
 |.label,_,_,_,h=>Qk h
def jX(P:Program)(k:Nat)(x:gV)(Q:Post)(env:List AV)(s:gU):Prop:=∃env' s',ij k env s env' s'/\ng P k x Q env' s'
theorem jX.of{P:Program}{k:Nat}{x:gV}{Q:Post}{env env':List AV}{s s':gU}(hw:ij k env s env' s')(h:rA P k x Q env' s'):jX P k x Q env s:=⟨_,_,hw,gO h⟩
theorem jX.mw{P:Program}{k:Nat}{x:gV}{Q:Post}{env env':List AV}{s s':gU}(hw:ij k env s env' s')(h:ng P k x Q env' s'):jX P k x Q env s:=⟨_,_,hw,h⟩
def Ak(P:Program)(k:Nat)(b:Bool)(x y:gV)(Q:Post)(env:List AV)(s:gU):Prop:=if b=true then rA P k x Q env s else rA P k y Q env s
def Iy(P:Program)(k:Nat)(x y:gV)(Q:Post)(env:List AV)(s:gU):AV->Prop
 |.d (.lit (.bool b))=>Ak P k b x y Q env s
 |_=>False
section
variable{P:Program}{k:Nat}{Q:Post}{env env':List AV}{s s':gU}{x y mc:gV}{b:Bool}
theorem Ow:rA P k .skip Q env s=Q .normal env s:=(rfl)
theorem Re{ms:List iw}:rA P k (.gQ ms) Q env s=vi P k (Q .normal) ms env s:=(rfl)
theorem Oq{ms:List iw}{af:List gz}:rA P k (.draw ms af) Q env s=(P.follows .mixedOrders=true/\uM P k (A7 ms af Q) ms [] env s):=(rfl)
theorem Rh:rA P k (.seq x y) Q env s=rA P k x (wj (rA P k y Q) Q) env s:=(rfl)
theorem Ld{id:Nat}:rA P k (.block id x) Q env s=rA P k x (B2 id Q) env s:=(rfl)
theorem Ou:rA P k (.loop x) Q env s=ng P k (.loop x) Q env s:=(rfl)
theorem Rg{g:Operand}{ps:List Nat}:rA P k (.Dv g ps x y) Q env s=ng P k (.Dv g ps x y) Q env s:=(rfl)
theorem Le:rA P k (.ghost x) Q env s=jX P k x Q env s:=(rfl)
theorem Ot{id:Nat}:rA P k (.exit id) Q env s=Q (.exit id) env s:=(rfl)
theorem Rf:rA P k .ret Q env s=Q .ret env s:=(rfl)
theorem Oo{o:Operand}:rA P k (.cond o x y) Q env s=Iy P k x y Q env s (ev env o):=by
 simp only[rA];split
 ·rename_i b h;rw[h];rfl
 ·rename_i h;unfold Iy;split
  ·rename_i b h2;exact absurd h2 (h b)
  ·rfl
theorem Va:Ak P k true x y Q env s=rA P k x Q env s:=by simp[Ak]
theorem U_:Ak P k false x y Q env s=rA P k y Q env s:=by simp[Ak]
end
section
variable{P:Program}{k k0:Nat}{Q:Post}{K:List AV->gU->Prop}{env env':List AV}{s s':gU}{x y mc:gV}{b b' want:Bool}{m:rB}{d:Option Nat}{ms:List iw}
 {F:List (List Nat×List Nat)->List AV->gU->Prop} {acc acc':List (List Nat×List Nat)} {foot foot':List Nat}
@[congr] theorem U9 (he:env=env')(hs:s=s'):rA P k mc Q env s=rA P k mc Q env' s':=by rw[he,hs]
@[congr] theorem U0 (he:env=env')(hs:s=s'):ng P k mc Q env s=ng P k mc Q env' s':=by rw[he,hs]
@[congr] theorem UX (hb:b=b'):Ak P k b x y Q env s=Ak P k b' x y Q env s:=by rw[hb]
@[congr] theorem US {R:List AV->gU->Prop}{o o':Out}(h:o=o'):lW P k0 R d o=lW P k0 R d o':=by rw[h]
@[congr] theorem UY (hb:b=b'):yP P k0 K b want m d ms env s=yP P k0 K b' want m d ms env s:=by rw[hb]
@[congr] theorem RH {R:List AV->gU->Prop}{f:Nat}{args args':List AV}(ha:args=args')(he:env=env')(hs:s=s'):
 lK P k0 f args env s d R=lK P k0 f args' env' s' d R:=by rw[ha,he,hs]
@[congr] theorem Tb {o o':qC}(hf:foot=foot')(h:o=o'):lP P k0 F ms acc foot d env s o=lP P k0 F ms acc foot' d env s o':=by rw[h,hf]
@[congr] theorem UZ (hb:b=b'):yF P k0 F b want m d ms acc env s=yF P k0 F b' want m d ms acc env s:=by rw[hb]
@[congr] theorem RF {f:Nat}{args args':List AV}(ha:args=args'):nO P k0 F ms acc foot d env s f args=nO P k0 F ms acc foot d env s f args':=by rw[ha]
@[congr] theorem U2 {af:List gz}(ha:acc=acc')(he:env=env')(hs:s=s'):A7 ms af Q acc env s=A7 ms af Q acc' env' s':=by rw[ha,he,hs]
end
theorem My{P:Program}{k0 f:Nat}{args env:List AV}{s:gU}{d:Option Nat}{R:List AV->gU->Prop}{dz:List D}{r:D}(hc:jF P f dz r)
 (ha:iG (args.map fun x=>x.jW (nQ [])) (dz.map .d)) (hk:R (iI d env (.d r)) s):lK P k0 f args env s d R:=yf (Fz ha hc hk)
theorem Ke{P:Program}{k0 f:Nat}{args env:List AV}{s:gU}{d:Option Nat}{R:List AV->gU->Prop}{dz:List D}{rs:List D}(hc:oF P f dz rs)
 (ha:iG (args.map fun x=>x.jW (nQ [])) (dz.map .d)) (hk:R (iI d env (.lE (rs.map .d))) s):lK P k0 f args env s d R:=yf (DC ha hc hk)
theorem Mu{P:Program}{k0:Nat}{F:List (List Nat×List Nat)->List AV->gU->Prop}{ms:List iw}{acc:List (List Nat×List Nat)}{foot:List Nat}{d:Option Nat}{env:List AV}{s:gU}
 {f:Nat} {args:List AV} {dz:List D} {r:D} (hc:jF P f dz r) (ha:iG (args.map fun x=>x.jW (nQ [])) (dz.map .d))
 (hk:uM P k0 F ms ((foot,[])::acc) (iI d env (.d r)) s):nO P k0 F ms acc foot d env s f args:=.inl ⟨_,ha,.inl ⟨r,hc,hk⟩⟩
theorem Kc{P:Program}{k0:Nat}{F:List (List Nat×List Nat)->List AV->gU->Prop}{ms:List iw}{acc:List (List Nat×List Nat)}{foot:List Nat}{d:Option Nat}{env:List AV}{s:gU}
 {f:Nat} {args:List AV} {dz rs:List D} (hc:oF P f dz rs) (ha:iG (args.map fun x=>x.jW (nQ [])) (dz.map .d))
 (hk:uM P k0 F ms ((foot,[])::acc) (iI d env (.lE (rs.map .d))) s):nO P k0 F ms acc foot d env s f args:=.inl ⟨_,ha,.inr ⟨rs,hc,hk⟩⟩
theorem jV.jf{P:Program}{f:Nat}{mc:gV}{n:Nat}{rs:List rW}(h:jV P f mc n rs){args:List D}{r:D}
 (hm:ng P 0 mc (FN rs fun x _=>AV.le x (.d r)) (args.map .d++List.replicate (n-(args.map AV.d).length) .gW) []):jF P f args r:=
 (h.calls hm).mono fun _ _ hx=>⟨_,hx,rfl⟩
theorem jV.pG{P:Program}{f:Nat}{mc:gV}{n:Nat}{rs:List rW}(h:jV P f mc n rs){args:List D}{ds:List D}
 (hm:ng P 0 mc (FN rs fun x _=>AV.le x (.lE (ds.map .d))) (args.map .d++List.replicate (n-(args.map AV.d).length) .gW) []):oF P f args ds:=
 (h.calls hm).mono fun _ _ hx=>⟨_,hx,rfl⟩
def sC{σ β:Type}(f:σ->Option (σ⊕β)):Nat->σ->β->Prop
 |0,_,_=>False
 |n+1,s,b=>f s=some (.inr b)\/∃s',f s=some (.inl s')/\sC f n s' b
theorem sC.Z8{σ β:Type}{f:σ->Option (σ⊕β)}:∀{n m:Nat}{s:σ}{b c:β},sC f n s b->sC f m s c->b=c
 |0,_,_,_,_,h,_=>h.elim
 |_+1,0,_,_,_,_,h=>h.elim
 |n+1,m+1,s,b,c,h1,h2=>by
  rcases h1 with h1|⟨s1,h1,h3⟩<;>rcases h2 with h2|⟨s2,h2,h4⟩<;>rw[h1]at h2<;>cases h2
  ·rfl
  ·exact sC.Z8 h3 h4
open Classical in
def g_{σ β:Type}(f:σ->Option (σ⊕β))(s:σ):Option β:=if h:∃b n,sC f n s b then some (choose h)else none
theorem qd{σ β:Type}{f:σ->Option (σ⊕β)}{s:σ}{b:β}(h:g_ f s=some b):∃n,sC f n s b:=by
 unfold g_ at h;split at h
 ·rename_i hx;cases h;exact eA hx
 ·cases h
theorem sC.g_{σ β:Type}{f:σ->Option (σ⊕β)}{n:Nat}{s:σ}{b:β}(h:sC f n s b):g_ f s=some b:=by
 have hx:∃b n,sC f n s b:=⟨b,n,h⟩;unfold lY.g_;rw[dif_pos hx];obtain⟨m,hm⟩:=eA hx;rw[hm.Z8 h]
theorem ie{σ β:Type}{f:σ->Option (σ⊕β)}{s:σ}{b:β}(h:f s=some (.inr b)):g_ f s=some b:=sC.g_ (n:=1) (.inl h)
theorem iB{σ β:Type}{f:σ->Option (σ⊕β)}{s s':σ}(h:f s=some (.inl s')):g_ f s=g_ f s':=by
 cases hx:g_ f s' with
 |some b=>obtain⟨n,hn⟩:=qd hx;exact sC.g_ (n:=n+1) (.inr ⟨s',h,hn⟩)
 |none=>
  cases hy:g_ f s with
  |none=>rfl
  |some b=>
   obtain⟨n,hn⟩:=qd hy;cases n with
   |zero=>exact hn.elim
   |succ n=>
    rcases hn with hn|⟨s2,h2,h3⟩
    ·rw[h]at hn;cases hn
    ·rw[h]at h2;cases h2;rw[h3.g_]at hx;cases hx
theorem sW{P:Program}{k:Nat}{Q:Post}{env:List AV}{s:gU}{x:gV}{σ β:Type}{f:σ->Option (σ⊕β)}{s0:σ}{b:β}(hb:g_ f s0=some b)
 (ws:List Nat) (vs:σ->List (Nat×AV)) (S:σ->gU) (hw:ij k env s (nX (pM env ws) (vs s0)) (S s0))
 (round:∀p t,f p=some t->(∀b',t=.inr b'->b'=b)->ng P k x (wj (fun env' s'=>∃p',t=.inl p'/\ij k env' s' (nX (pM env ws) (vs p')) (S p')) Q)
  (nX (pM env ws) (vs p)) (S p)):ng P k (.loop x) Q env s:=by
 obtain⟨n,hn⟩:=qd hb;refine Ql ws (fun p:Nat×σ=>vs p.2) (fun p=>S p.2) (fun p=>sC f p.1 p.2 b) (·.1) (n,s0) hn hw ?_;rintro⟨m,p⟩ hm;cases m with
 |zero=>exact hm.elim
 |succ m=>
  rcases hm with hm|⟨p',hm,hr⟩
  ·refine(round p _ hm fun b' hb'=>by cases hb';rfl).mono fun e env s hq=>?_
   cases e with
   |normal=>obtain⟨p',hp,_⟩:=hq;cases hp
   |_=>exact hq
  ·refine(round p _ hm fun b' hb'=>by cases hb').mono fun e env s hq=>?_
   cases e with
   |normal=>obtain⟨p2,hp,hw⟩:=hq;cases hp;exact⟨(m,p'),hr,dz m,hw⟩
   |_=>exact hq
theorem rj{α:Type}{p:Prop}[Decidable p]{a:Option α}{r:α}(h:(if p then a else none)=some r):p/\a=some r:=by
 split at h
 ·rename_i hp;exact⟨hp,h⟩
 ·cases h
theorem Cx{α:Type}{c:Bool}{a b:Option α}{r:α}(h:(if c=true then a else b)=some r):(c=true/\a=some r)\/(c=false/\b=some r):=by
 cases c with
 |true=>exact .inl ⟨rfl,by simpa using h⟩
 |false=>exact .inr ⟨rfl,by simpa using h⟩
theorem bind_some{α β:Type}{x:Option α}{K:α->Option β}{r:β}(h:x.bind K=some r):∃a,x=some a/\K a=some r:=ai.1 h
theorem jg{σ β:Type}{x:Option β}{t:σ⊕β}{b:β}(h:x.map Sum.inr=some t)(hb:∀b',t=.inr b'->b'=b):x=some b:=by
 cases x with
 |none=>cases h
 |some c=>cases h;rw[hb c rfl]
open Classical in
def J1{α β:Type}(xs:List α)(a b:Option β):Option β:=if xs=[]then(if a=b then b else none)else b
theorem Fl{α β:Type}{xs:List α}{a b:Option β}{r:β}(h:J1 xs a b=some r):(xs=[]->a=some r)/\b=some r:=by
 unfold J1 at h;split at h
 ·split at h
  ·rename_i h1;exact⟨fun _=>h1.trans h,h⟩
  ·cases h
 ·rename_i hx;exact⟨fun he=>absurd he hx,h⟩
open Classical in
def Dr{α:Type}(f:Nat->Option α):Option α:=if h:∃a n,f n=some a then some (choose h)else none
theorem vS{α:Type}{f:Nat->Option α}{a:α}(h:Dr f=some a):∃n,f n=some a:=by
 unfold Dr at h;split at h
 ·rename_i hx;cases h;exact eA hx
 ·cases h
theorem Jf{α:Type}{f:Nat->Option α}{a:α}(n:Nat)(h:f n=some a)(hu:∀m b,f m=some b->b=a):Dr f=some a:=by
 have hx:∃a n,f n=some a:=⟨a,n,h⟩;unfold Dr;rw[dif_pos hx];obtain⟨m,hm⟩:=eA hx;rw[hu m _ hm]
theorem xN{p q:Prop}(hp:p)(hq:q):p/\q:=⟨hp,hq⟩
def Nd(n off:Nat)(ag:Bool)(K:AV->Prop):Ob->Prop
 |.obj _ cs=>off+n<=cs.length/\K (JG n off cs ag)
 |_=>False
theorem KL{n id off:Nat}{ag:Bool}{s:gU}{K:AV->Prop}:qL n ag (.ptr id off) s K=Nd n off ag K (sat s id):=by
 simp only[qL];cases sat s id with
 |obj t cs=>cases ag<;>rfl
 |_=>rfl
attribute [go_sem] Nd KL
theorem Ol:AV.qu []=some []:=rfl
theorem La{x:D}{xs:List AV}:AV.qu (.d x::xs)=(AV.qu xs).map (x::·):=rfl
theorem Om{e id:Nat}{ys:List D}{xs:List AV}:AV.qu (.own e id ys::xs)=none:=rfl
theorem On{id off:Nat}{xs:List AV}:AV.qu (.ptr id off::xs)=none:=rfl
theorem Ok{e id off len:Nat}{xs:List AV}:AV.qu (.oX e id off len::xs)=none:=rfl
theorem Q_{f:Nat}{a b xs:List AV}:AV.qu (.fn f a b::xs)=none:=rfl
theorem Lc{xs:List AV}:AV.qu (.gW::xs)=none:=rfl
theorem Oi{ys xs:List AV}:AV.qu (.agg ys::xs)=none:=rfl
def mkO(cs:List AV):Option (List D)->AV
 |some ds=>.d (.agg ds)
 |none=>.agg cs
theorem Uc:AV.mk []=.d (.agg []):=rfl
theorem Qo{x:AV}{xs:List AV}:AV.mk (x::xs)=mkO (x::xs) (AV.qu (x::xs)):=by unfold AV.mk;cases AV.qu (x::xs)<;>rfl
attribute [go_sem] Ol La Om On Ok Q_ Lc Oi mkO Uc Qo
theorem L_:L6 (.pointer none)=.d (.lit (.pointer none)):=rfl
theorem L9:L6 (.map none)=.d (.lit (.map none)):=rfl
theorem Pd:L6 .nilFunc=.d (.lit .nilFunc):=rfl
theorem Tx{k:IntKind}{n:Int}:cD (.int k n)=.lit (.int k n):=rfl
theorem Pg{b:Bool}:cD (.bool b)=.lit (.bool b):=rfl
theorem J9{b:ByteArray}:cD (.string b)=.lit (.string b):=rfl
theorem Ty:cD (.slice none 0 0)=.sl 0 (some true) []:=rfl
theorem Pj:cD (.pointer none)=.lit (.pointer none):=rfl
theorem Ph:cD (.map none)=.lit (.map none):=rfl
theorem Tw:cD .nilFunc=.lit .nilFunc:=rfl
theorem QA{k:IntKind}{n:Int}:one (.int k n)=true:=rfl
theorem Nx{b:Bool}:one (.bool b)=true:=rfl
theorem H_{b:ByteArray}:one (.string b)=true:=rfl
theorem KV{a:Option Addr}{n c:Nat}:one (.slice a n c)=true:=rfl
theorem QC{a:Option Addr}:one (.pointer a)=true:=rfl
theorem QB{a:Option Nat}:one (.map a)=true:=rfl
theorem Qz:one .nilFunc=true:=rfl
attribute [go_sem] L_ L9 Pd Tx Pg J9 Ty Pj Ph Tw QA Nx H_ KV QC QB Qz List.all_cons List.all_nil Bool.and_self
abbrev kD(k:IntKind)(n:Int):D:=.lit (.int k n)
abbrev sD(b:ByteArray):D:=.lit (.string b)
def gS{α:Type}(e:Nat)(f:α->D)(xs:List α):D:=.sl e none (xs.map f)
theorem Q2{α:Type}{e:Nat}{f:α->D}{xs:List α}:qt (.d (gS e f xs))=some (e,xs.map f):=rfl
theorem Qu{α:Type}{e:Nat}{f:α->D}{xs:List α}:yu (.d (gS e f xs))=none:=rfl
theorem Kn{α:Type}{e:Nat}{f:α->D}{xs:List α}:AV.cells (.d (gS e f xs))=some [.d (gS e f xs)]:=rfl
theorem G1{α:Type}{e:Nat}{f:α->D}{xs:List α}:AV.BU (.d (gS e f xs))=none:=rfl
theorem Ht{α:Type}{e:Nat}{f:α->D}{xs:List α}:gT (gS e f xs)=[gS e f xs]:=rfl
theorem getD_map'{α:Type}[Inhabited α]{f:α->D}{l:List α}{i:Nat}{d:D}(h:i<l.length):(l.map f).getD i d=f (l.getD i default):=by simp[av,bq,az h]
attribute [go_sem] List.length_map List.length_append Option.map_some Option.map_none Option.bind_some and_self Nat.not_lt_zero Bool.not_true Bool.not_false List.forall_mem_cons List.not_mem_nil false_imp_iff implies_true getD_map' List.map_eq_nil_iff List.append_eq_nil_iff Int.toNat_natCast Ob.tok.injEq true_or or_true false_or or_false HM E_ GS KK M4 Tl kj vF AW
attribute [go_sem] Rg Le Ow Re Oq Rh Ld Ou Ot Rf Oo Va U_ Iy Q2 Qu Kn G1 Ht nQ lz
theorem iG.refl:∀xs:List AV,iG xs xs
 |[]=>trivial
 |x::xs=>⟨AV.le_refl x,iG.refl xs⟩
theorem vF.refl:∀o:Ob,vF o o
 |.dead=>trivial
 |.obj _ cs=>⟨rfl,iG.refl cs⟩
 |.tok _ _ _=>⟨rfl,rfl,rfl⟩
 |.kO _ _ _ _=>⟨rfl,rfl,rfl,iG.refl _⟩
 |.od _ _ _ _=>⟨rfl,rfl,rfl,sM.refl _⟩
 |.lN _ _ _=>⟨rfl,rfl,sM.refl _⟩
 |.mp _ _ _=>⟨rfl,rfl,OC.refl _⟩
theorem tu{β:gZ}{s s':gU}(hs:∀id,vF (sat s id) (sat s' id))(b o:Nat):own β s' b o<->own β s b o:=by
 unfold own;refine exists_congr fun id=>?_
 have:=hs id;revert this;cases sat s id<;>cases sat s' id<;>intro h1<;>first|exact h1.elim|exact c_|skip
 ·obtain⟨_,rfl,rfl⟩:=h1;exact c_
 ·obtain⟨_,rfl,rfl,_⟩:=h1;exact c_
 ·obtain⟨_,rfl,rfl,_⟩:=h1;exact c_
 ·obtain⟨rfl,rfl,_⟩:=h1;exact c_
theorem Af{β:gZ}{s s':gU}(hs:∀id,vF (sat s id) (sat s' id))(id b:Nat):gR β s' id b<->gR β s id b:=by
 unfold gR;have:=hs id;revert this;cases sat s id<;>cases sat s' id<;>intro h1<;>first|exact h1.elim|exact c_|skip
 ·obtain⟨_,rfl,rfl⟩:=h1;exact c_
 ·obtain⟨_,rfl,rfl,_⟩:=h1;exact c_
 ·obtain⟨_,rfl,rfl,_⟩:=h1;exact c_
 ·obtain⟨rfl,rfl,_⟩:=h1;exact c_
theorem Inv.ctx{C:Ctx}{s1:gU}{β:gZ}{s:gU}{w:World}(hs:∀id,vF (sat C.s id) (sat s1 id)):Inv C β s w<->Inv {C with s:=s1} β s w:=by
 constructor
 ·intro h;exact⟨h.size,h.io,h.gl.mono fun b o v h1 h2=>⟨h1,fun h3=>h2 (h3.imp id (tu hs b o).1)⟩,fun b o v h1 h2=>h.keep b o v h1 fun h3=>h2 ((tu hs b o).2 h3),fun b h1 h2=>h.oE b h1 fun id h3=>h2 id ((Af hs id b).2 h3),
   fun b o h1=>(h.n_ b o h1).imp (fun h2=>(tu hs b o).2 h2) id,fun id b h1=>(h.qM id b h1).imp (fun⟨i,h2⟩=>⟨i,(Af hs i b).2 h2⟩) (fun x=>x),h.pl,
   fun b o h1=>⟨(h.low b o h1).1,fun h2=>(h.low b o h1).2 ((tu hs b o).1 h2)⟩,h.obs,h.inj⟩
 ·intro h;exact⟨h.size,h.io,h.gl.mono fun b o v h1 h2=>⟨h1,fun h3=>h2 (h3.imp id (tu hs b o).2)⟩,fun b o v h1 h2=>h.keep b o v h1 fun h3=>h2 ((tu hs b o).1 h3),fun b h1 h2=>h.oE b h1 fun id h3=>h2 id ((Af hs id b).1 h3),
   fun b o h1=>(h.n_ b o h1).imp (fun h2=>(tu hs b o).1 h2) id,fun id b h1=>(h.qM id b h1).imp (fun⟨i,h2⟩=>⟨i,(Af hs i b).1 h2⟩) (fun x=>x),h.pl,
   fun b o h1=>⟨(h.low b o h1).1,fun h2=>(h.low b o h1).2 ((tu hs b o).2 h2)⟩,h.obs,h.inj⟩
theorem h_.S_{P:Program}{f:Nat}{dz:List AV}{s s1:gU}{k:Nat}{R:AV->gU->Prop}(h:h_ P f dz s1 k R)(hs:kj s s1):h_ P f dz s k R:=fun C vs h1 h2 h3 h4=>by
 subst h1;have hs':=hs.sat;obtain⟨h5,h6⟩:=h3.told hs';refine(h {C with s:=s1} vs rfl h2 ((Inv.ctx hs').1 h5) (by
  show AV.ir C.β (Ctx.gX {C with s:=s1} C.β s1) C.w dz vs.toList;have:Ctx.gX {C with s:=s1} C.β s1=C.gX C.β C.s:=h6;rw[this];exact h4)).mono fun e w' ⟨v,x,β',s',e1,e2,e3,e4⟩=>⟨v,x,β',s',e1,(Inv.ctx hs').2 e2,e3,e4⟩
def Be:List Nat->gU->gU
 |[],s=>s
 |i::r,s=>Be r (AW i s)
def zf:List Nat->AV->AV
 |[],x=>x
 |i::r,x=>zf r (x.jW (ic i))
theorem Inv.drop{C:Ctx}{β:gZ}{s:gU}{w:World}(h:Inv C β s w)(id:Nat)(hid:C.k<=id):∃β',Inv C β' (AW id s) w/\
 ∀x v,AV.ok β (C.gX β s) w x v->AV.ok β' (C.gX β' (AW id s)) w (x.jW (ic id)) v:=by
 have hs:∀j,vF (sat (iW id s) j) (sat (AW id s) j):=fun j=>by rw[Ac];exact .refl _
 obtain⟨h1,h2⟩:=(h.kill id hid).told hs;exact⟨_,h1,fun x v hx=>by rw[h2];exact tV hx⟩
theorem Inv.xy{C:Ctx}{w:World}:∀{ids:List Nat}{β:gZ}{s:gU},Inv C β s w->(∀i∈ids,C.k<=i)->∃β',Inv C β' (Be ids s) w/\
 ∀x v,AV.ok β (C.gX β s) w x v->AV.ok β' (C.gX β' (Be ids s)) w (zf ids x) v
 |[],β,_,h,_=>⟨β,h,fun _ _ hx=>hx⟩
 |i::r,_,_,h,hi=>by
  obtain⟨β1,h1,h2⟩:=h.drop i (hi i (by simp));obtain⟨β2,h3,h4⟩:=h1.xy (ids:=r) fun j hj=>hi j (by simp[hj])
  exact⟨β2,h3,fun x v hx=>h4 _ _ (h2 _ _ hx)⟩
theorem h_.cut{P:Program}{f:Nat}{args:List AV}{s:gU}{k:Nat}{y:AV}{t:gU}
 (h:h_ P f args s k fun x s'=>∃ids,(∀i∈ids,k<=i)/\AV.le (zf ids x) y/\kj (Be ids s') t):h_ P f args s k fun x s'=>x=y/\s'=t:=fun C vs h1 h2 h3 h4=>
 (h C vs h1 h2 h3 h4).mono fun e w' ⟨v,x,β',s',e1,e2,e3,ids,e4,e5,e6⟩=>by
  subst h2;obtain⟨β2,h5,h6⟩:=e2.xy e4;obtain⟨h7,h8⟩:=h5.told e6.sat;exact⟨v,y,β2,t,e1,h7,by rw[h8];exact e5 _ _ _ _ (h6 _ _ e3),rfl,rfl⟩
theorem jV.mm{P:Program}{f:Nat}{mc:gV}{n:Nat}{rs:List rW}(h:jV P f mc n rs){args:List AV}{s t:gU}{k:Nat}{y:AV}
 (hm:ng P k mc (FN rs fun x s'=>∃ids,(∀i∈ids,k<=i)/\AV.le (zf ids x) y/\kj (Be ids s') t) (args++List.replicate (n-args.length) .gW) s):
 h_ P f args s k fun x s'=>x=y/\s'=t:=h_.cut (h.calls hm)
theorem En{P:Program}{k0 f:Nat}{args env:List AV}{s:gU}{d:Option Nat}{R:List AV->gU->Prop}(pr nw:List gv){dz:List AV}{s1 t:gU}{y:AV}
 (hc:h_ P f dz s1 pr.length fun x s'=>x=y/\s'=t) (h1:pr.map (·.1)=List.range pr.length) (h2:((pr++nw).map (·.1)).Nodup) (h3:((pr++nw).map (·.2)).Nodup)
 (h4:∀p∈nw,sat s p.2=.dead/\k0<=p.2) (ha:iG (args.map fun x=>x.jW (nQ pr)) dz) (hs:kj (kR s pr pr) s1)
 (hk:R (iI d env (y.jW (lz (pr++nw)))) (pO s t (pr++nw) (pr++nw))):lK P k0 f args env s d R:=
 yf ⟨pr,nw,_,h1,h2,h3,h4,(hc.S_ hs).args ha,fun x s' ⟨e1,e2⟩=>by subst e1;subst e2;exact hk⟩
theorem PF{P:Program}{k0:Nat}{F:List (List Nat×List Nat)->List AV->gU->Prop}{ms:List iw}{acc:List (List Nat×List Nat)}{foot:List Nat}{d:Option Nat}{env:List AV}{s:gU}
 {f:Nat} {args:List AV} (pr nw:List gv) {dz:List AV} {s1 t:gU} {y:AV}
 (hc:h_ P f dz s1 pr.length fun x s'=>x=y/\s'=t) (h1:pr.map (·.1)=List.range pr.length) (h2:((pr++nw).map (·.1)).Nodup) (h3:((pr++nw).map (·.2)).Nodup)
 (h4:∀p∈nw,sat s p.2=.dead/\k0<=p.2) (ha:iG (args.map fun x=>x.jW (nQ pr)) dz) (hs:kj (kR s pr pr) s1)
 (hk:uM P k0 F ms (((pr++nw).map (·.2)++foot,(Gj t (pr++nw) (pr++nw)).map (·.1))::acc) (iI d env (y.jW (lz (pr++nw)))) (pP s (Gj t (pr++nw) (pr++nw)))):
 nO P k0 F ms acc foot d env s f args:=.inr ⟨pr,nw,y,t,h1,h2,h3,h4,(hc.S_ hs).args ha,hk⟩
attribute [go_sem] Gj kR pO Ob.jW Be zf
mutual
def AV.mT(id:Nat)(ds:List D):AV->AV
 |.gW=>.gW
 |.d x=>.d x
 |.own e j xs=>if j=id then .d (.sl e none xs)else .own e j xs
 |.ptr j off=>if j=id then .gW else .ptr j off
 |.oX e j off len=>if j=id then(if e=1/\off+len<=ds.length/\(∀d∈ds,(gT d).length=1)then .d (.sl 1 none ((ds.drop off).take len))
  else if off=0/\len=ds.length/\(∀d∈ds,(gT d).length=e)then .d (.sl e none ds)else .gW)else .oX e j off len
 |.pv cs=>.pv cs
 |.agg cs=>.agg (AV.oV id ds cs)
 |.lE cs=>.lE (AV.oV id ds cs)
 |.fn f a b=>.fn f (AV.oV id ds a) (AV.oV id ds b)
 |.kL e j n=>if j=id then(if n=ds.length/\(∀d∈ds,(gT d).length=e)then .d (.sl e none ds)else .gW)else .kL e j n
 |.kP j k off=>if j=id then .gW else .kP j k off
 |.BC e xs=>.BC e xs
 |.dp x=>.dp x
 |.mp j=>if j=id then .gW else .mp j
def AV.oV(id:Nat)(ds:List D):List AV->List AV
 |[]=>[]
 |x::xs=>AV.mT id ds x::AV.oV id ds xs
end
theorem AG(id:Nat)(ds:List D):∀xs:List AV,AV.oV id ds xs=xs.map (AV.mT id ds)
 |[]=>rfl
 |x::xs=>by simp only[AV.oV,aN,AG id ds xs]
theorem GI{id:Nat}{ds:List D}{β β':gZ}{O O':Own}{w w':World}{x:AV}{v:Value}(h:AV.ok β O w x v->AV.ok β' O' w' (x.mT id ds) v):
 ((∃d,x=.dp d/\x.mT id ds=.dp d)\/(∀d,x≠ .dp d)/\(∀d,x.mT id ds≠ .dp d)/\(AV.ok β O w x v->AV.ok β' O' w' (x.mT id ds) v)):=by
 cases x with
 |dp d=>exact .inl ⟨d,rfl,rfl⟩
 |own e j xs=>refine .inr ⟨fun d h=>(nomatch h),fun d h=>?_,h⟩;simp only[AV.mT]at h;split at h<;>exact nomatch h
 |ptr j off=>refine .inr ⟨fun d h=>(nomatch h),fun d h=>?_,h⟩;simp only[AV.mT]at h;split at h<;>exact nomatch h
 |oX e j off len=>refine .inr ⟨fun d h=>(nomatch h),fun d h=>?_,h⟩;simp only[AV.mT]at h;(repeat' split at h)<;>exact nomatch h
 |kL e j k=>refine .inr ⟨fun d h=>(nomatch h),fun d h=>?_,h⟩;simp only[AV.mT]at h;(repeat' split at h)<;>exact nomatch h
 |kP j k off=>refine .inr ⟨fun d h=>(nomatch h),fun d h=>?_,h⟩;simp only[AV.mT]at h;split at h<;>exact nomatch h
 |mp j=>refine .inr ⟨fun d h=>(nomatch h),fun d h=>?_,h⟩;simp only[AV.mT]at h;split at h<;>exact nomatch h
 |_=>exact .inr ⟨fun d h=>(nomatch h),fun d h=>(nomatch h),h⟩
def Ob.mT(id:Nat)(ds:List D):Ob->Ob
 |.obj t cs=>.obj t (AV.oV id ds cs)
 |.od t e n cs=>.od t e n (AV.oV id ds cs)
 |.lN e n cs=>.lN e n (AV.oV id ds cs)
 |x=>x
def su(id:Nat)(ds:List D):gU->gU
 |[]=>[]
 |(j,x)::r=>if j=id then su id ds r else(j,x.mT id ds)::su id ds r
theorem xX(id:Nat)(ds:List D)(j:Nat):∀s:gU,sat (su id ds s) j=if j=id then .dead else(sat s j).mT id ds
 |[]=>by simp[su,sat,Ob.mT]
 |(i,x)::r=>by
  simp only[su];by_cases h:i=id
  ·subst h;simp only[aB,sat,xX i ds j r];split
   ·rfl
   ·rfl
  ·simp only[h,aF,sat,xX id ds j r];by_cases h2:j=i
   ·subst h2;simp[h]
   ·simp[h2]
theorem zY{β:gZ}{s:gU}{id b o:Nat}{ds:List D}(h:own (gY β id .no) (su id ds s) b o):∃i,i≠id/\sk β s i b o:=by
 obtain⟨i,h⟩:=h;rw[xX]at h;by_cases hi:i=id
 ·subst hi;simp at h
 ·refine⟨i,hi,?_⟩;unfold sk;simp only[hi,aF]at h;cases hs:sat s i with
  |dead=>rw[hs]at h;exact h
  |obj t cs=>rw[hs]at h;simpa[Ob.mT,gY,hi]using h
  |tok t e n=>rw[hs]at h;simpa[Ob.mT,gY,hi]using h
  |kO t e n cs=>rw[hs]at h;simpa[Ob.mT,gY,hi]using h
  |od t e n cs=>rw[hs]at h;simpa[Ob.mT,gY,hi]using h
  |lN e n cs=>rw[hs]at h;simpa[Ob.mT,gY,hi]using h
  |mp P k es=>rw[hs]at h;first|exact h.elim|simpa[Ob.mT,gY,hi]using h
theorem xo{β:gZ}{s:gU}{id i b:Nat}{ds:List D}(h:gR (gY β id .no) (su id ds s) i b):i≠id/\gR β s i b:=by
 unfold gR at h⊢;rw[xX]at h;by_cases hi:i=id
 ·subst hi;simp at h
 ·refine⟨hi,?_⟩;simp only[hi,aF]at h;cases hs:sat s i with
  |dead=>rw[hs]at h;exact h
  |obj t cs=>rw[hs]at h;simpa[Ob.mT,gY,hi]using h
  |tok t e n=>rw[hs]at h;simpa[Ob.mT,gY,hi]using h
  |kO t e n cs=>rw[hs]at h;simpa[Ob.mT,gY,hi]using h
  |od t e n cs=>rw[hs]at h;simpa[Ob.mT,gY,hi]using h
  |lN e n cs=>rw[hs]at h;simpa[Ob.mT,gY,hi]using h
  |mp P k es=>rw[hs]at h;first|exact h.elim|simpa[Ob.mT,gY,hi]using h
theorem NM{O:Own}{w:World}{b:Nat}:∀{ds:List D}{vs:List Value}{o:Nat},(∀d∈ds,gT d=[d])->D.ir O w ds vs->jO O w b o vs->D.row O w b o 1 ds
 |[],_,_,_,_,_=>by simp[D.row]
 |d::ds,vs,o,hd,h,hc=>by
  simp only[D.ir]at h;obtain⟨v,r,rfl,h1,h2,h3⟩:=h;rw[D.mg];refine⟨⟨[v],rfl,fun j u hj=>?_,?_⟩,NM (fun x hx=>hd x (by simp[hx])) h3 fun j u hj=>?_⟩
  ·cases j with
   |zero=>simp at hj;subst hj;exact hc 0 v rfl
   |succ j=>simp at hj
  ·have:=hd d (by simp);cases d with
   |agg cs=>
    simp only[gT]at this;simp only[D.FA];have hx:=bX List.length this;cases cs with
    |nil=>simp at hx
    |cons c cs=>
     simp only[bR]at this;obtain⟨e1,_⟩:=this;have:=bX SizeOf.sizeOf e1;simp at this;omega
   |_=>exact⟨v,rfl,h2⟩
  ·have:=hc (j+1) u hj;rw[show o+1+j=o+(j+1) by omega];exact this
section
variable{C:Ctx}{β:gZ}{s:gU}{w:World}{id t:Nat}{ds:List D}
theorem Ck{b o:Nat}(h:C.gX (gY β id .no) (su id ds s) b o):C.gX β s b o:=h.imp (fun x=>x) fun h=>let⟨i,_,h⟩:=zY h;⟨i,h⟩
theorem xC{x:D}{v:Value}(h:D.ok (C.gX β s) w x v):D.ok (C.gX (gY β id .no) (su id ds s)) w x v:=D.iN (fun _ _ _ hc hn=>⟨hc,fun h=>hn (Ck h)⟩) _ _ h
theorem vN{x:List D}{v:List Value}(h:D.ir (C.gX β s) w x v):D.ir (C.gX (gY β id .no) (su id ds s)) w x v:=D.iZ (fun _ _ _ hc hn=>⟨hc,fun h=>hn (Ck h)⟩) _ _ h
def A0(s:gU)(id:Nat)(ds:List D):Prop:=
 (∃t,sat s id=.obj t (ds.map .d)/\∀d∈ds,gT d=[d])\/(∃t e,sat s id=.kO t e ds.length (ds.flatMap gT)/\∀d∈ds,(gT d).length=e)\/
  ∃t e,sat s id=.obj t ((ds.flatMap gT).map .d)/\(∀d∈ds,(gT d).length=e)/\e≠1/\ds≠[]
theorem PY(h:Inv C β s w)(ho:sat s id=.obj t (ds.map .d))(hd:∀d∈ds,gT d=[d]){off len:Nat}(hl:off+len<=ds.length){v:Value}
 (hv:AV.ok β (C.gX β s) w (.oX 1 id off len) v):D.ok (C.gX (gY β id .no) (su id ds s)) w (.sl 1 none ((ds.drop off).take len)) v:=by
 simp only[AV.ok]at hv;obtain⟨b,cap,h1,⟨h2,h3⟩,rfl⟩:=hv;have hob:=h.obs id;rw[ho]at hob;obtain⟨b',vs,h4,h5,h6,h7⟩:=hob;rw[h1]at h4;cases h4;have hlen:((ds.drop off).take len).length=len:=by simp;omega
 obtain⟨pre,rest,hvs,h7⟩:=h7;have h6':∀u∈pre,one u=true:=fun u hu=>h6 u (by rw[hvs];exact bt _ hu)
 have hoks:=zW h6' h7;have hcells:jO (C.gX (gY β id .no) (su id ds s)) w b 0 pre:=fun j u hj=>by
  have hju:vs[j]?=some u:=by
   have:vs.toList[j]?=some u:=by rw[hvs,aT (aL.1 hj).1];exact hj
   simpa using this
  refine⟨?_,?_,h6' u (bO hj)⟩
  ·simp[World.cell?,h5,hju]
  ·rintro(hO|hO)
   ·have:=h.low b (0+j) hO;rcases h.n_ b (0+j) ⟨id,by rw[ho];exact h1⟩with h8|h8
    ·exact this.2 h8
    ·omega
   ·obtain⟨i,hi,hO⟩:=zY hO;exact hi (h.inj i id b hO.block (by unfold gR;rw[ho];exact h1))
 simp only[D.ok];refine⟨some ⟨b,off,none⟩,cap,by rw[hlen],by rw[hlen];exact⟨h2,h3⟩,trivial,.inr ⟨b,off,rfl,?_⟩⟩;have hall:=vN (id:=id) (ds:=ds) hoks;rw[D.je]at hall;refine NM (vs:=(pre.drop off).take len) (fun d hd'=>hd d (cS (cB hd'))) ?_ fun j u hj=>?_
 ·rw[D.je];refine⟨by simp[<-hall.1],fun i x u hx hu=>?_⟩;rw[cq]at hx hu;split at hx
  ·rename_i hi;rw[ah hi]at hu;rw[cE]at hx hu;exact hall.2 _ _ _ hx hu
  ·cases hx
 ·rw[cq]at hj;split at hj
  ·rw[cE]at hj;have:=hcells (off+j) u hj;rwa [show 0+(off+j)=off+j by omega]at this
  ·cases hj
theorem Cc{O:Own}{w:World}:∀{xs ys:List D}{vs:List Value},D.ir O w (xs++ys) vs->∃us r,vs=us++r/\D.ir O w xs us/\D.ir O w ys r
 |[],ys,vs,h=>⟨[],vs,rfl,by simp[D.ir],h⟩
 |x::xs,ys,vs,h=>by
  simp only[bZ,D.ir]at h;obtain⟨v,r,rfl,h0,h1,h2⟩:=h;obtain⟨us,r',rfl,h3,h4⟩:=Cc h2;exact⟨v::us,r',rfl,by simp only[D.ir];exact⟨v,us,rfl,h0,h1,h3⟩,h4⟩
theorem Cj{O:Own}{w:World}{b e:Nat}:∀{ds:List D}{vs:List Value}{o:Nat},(∀d∈ds,(gT d).length=e)->D.ir O w (ds.flatMap gT) vs->jO O w b o vs->D.row O w b o e ds
 |[],_,_,_,_,_=>by simp[D.row]
 |d::ds,vs,o,hd,h,hc=>by
  rw[cY]at h;obtain⟨us,r,rfl,h1,h2⟩:=Cc h;have hl:=D.iC h1;rw[hd d (by simp)]at hl;rw[D.mg];refine⟨⟨us,hl,fun j u hj=>?_,Jt h1⟩,Cj (fun x hx=>hd x (by simp[hx])) h2 fun j u hj=>?_⟩
  ·exact hc j u (by rw[aT (aL.1 hj).1];exact hj)
  ·have:=hc (e+j) u (by rw[bz gN,hl,cK];exact hj);rwa [<-di]at this
theorem PX{e:Nat}(h:Inv C β s w)(ho:sat s id=.kO t e ds.length (ds.flatMap gT)){e':Nat}(hd:∀d∈ds,(gT d).length=e'){v:Value}
 (hv:AV.ok β (C.gX β s) w (.kL e' id ds.length) v):D.ok (C.gX (gY β id .no) (su id ds s)) w (.sl e' none ds) v:=by
 simp only[AV.ok]at hv;obtain⟨u,m,h1,h2,h3,_⟩:=hv;have hob:=h.obs id;rw[ho]at hob;obtain⟨u',h4,_,h6⟩:=hob;rw[h4]at h1;obtain⟨rfl,rfl⟩:=h1;have:=h3 rfl;subst this;simp only[D.ok];rcases h6 with⟨rfl,h7⟩|⟨b,cap,vs,rfl,k2,k3,k4,k5,k6,pre,rest,k7,k8⟩
 ·have:ds=[]:=bP.1 h7;subst this;exact⟨none,0,rfl,⟨aC _,gN⟩,trivial,.inl rfl⟩
 ·refine⟨_,cap,rfl,⟨k4,k5⟩,trivial,.inr ⟨b,0,rfl,Cj hd (vN k8) fun j u hj=>?_⟩⟩;have hju:vs[j]?=some u:=by
   have:vs.toList[j]?=some u:=by rw[k7,aT (aL.1 hj).1];exact hj
   simpa using this
  refine⟨by simp[World.cell?,k2,hju],?_,k6 u (by rw[k7];exact bt _ (bO hj))⟩;have hbl:gR β s id b:=by unfold gR;rw[ho];exact⟨cap,h4⟩
  rintro(hO|hO)
  ·have:=h.low b (0+j) hO;rcases h.n_ b (0+j) ⟨id,by rw[ho];exact⟨cap,h4⟩⟩with h8|h8
   ·exact this.2 h8
   ·omega
  ·obtain⟨i,hi,hO⟩:=zY hO;exact hi (h.inj i id b hO.block hbl)
theorem MM{e:Nat}(h:Inv C β s w)(ho:A0 s id ds)(hd:∀d∈ds,(gT d).length=e)(hn:¬(e=1/\0+ds.length<=ds.length/\∀d∈ds,(gT d).length=1)){v:Value}
 (hv:AV.ok β (C.gX β s) w (.oX e id 0 ds.length) v):D.ok (C.gX (gY β id .no) (su id ds s)) w (.sl e none ds) v:=by
 simp only[AV.ok]at hv;obtain⟨b,cap,h1,⟨h2,h3⟩,rfl⟩:=hv;simp only[D.ok];by_cases hds:ds=[]
 ·subst hds;exact⟨_,cap,rfl,⟨h2,h3⟩,trivial,.inl rfl⟩
 obtain⟨d0,hd0⟩:=List.exists_mem_of_ne_nil _ hds;rcases ho with⟨t,ho,hd1⟩|⟨t,e',ho,hd1⟩|⟨t,e',ho,hd1,he1,hne⟩
 ·exfalso;have e1:=hd d0 hd0;rw[hd1 d0 hd0]at e1;exact hn ⟨e1.symm,gN,fun d hd=>by rw[hd1 d hd];rfl⟩
 ·have hob:=h.obs id;rw[ho]at hob;obtain⟨u,h4,_⟩:=hob;rw[h1]at h4;cases h4
 ·have hob:=h.obs id;rw[ho]at hob;obtain⟨b',vs,h4,h5,h6,h7⟩:=hob;rw[h1]at h4;cases h4;obtain⟨pre,rest,hvs,h7⟩:=h7;have h6':∀u∈pre,one u=true:=fun u hu=>h6 u (by rw[hvs];exact bt _ hu)
  have hoks:=zW h6' h7;refine⟨_,cap,rfl,⟨h2,h3⟩,trivial,.inr ⟨b,0,rfl,Cj hd (vN hoks) fun j u hj=>?_⟩⟩;have hju:vs[j]?=some u:=by
   have:vs.toList[j]?=some u:=by rw[hvs,aT (aL.1 hj).1];exact hj
   simpa using this
  refine⟨by simp[World.cell?,h5,hju],?_,h6' u (bO hj)⟩;rintro(hO|hO)
  ·have:=h.low b (0+j) hO;rcases h.n_ b (0+j) ⟨id,by rw[ho];exact h1⟩with h8|h8
   ·exact this.2 h8
   ·omega
  ·obtain⟨i,hi,hO⟩:=zY hO;exact hi (h.inj i id b hO.block (by unfold gR;rw[ho];exact h1))
mutual
theorem AE(h:Inv C β s w)(ho:A0 s id ds):∀(x:AV)(v:Value),AV.ok β (C.gX β s) w x v->
 AV.ok (gY β id .no) (C.gX (gY β id .no) (su id ds s)) w (x.mT id ds) v
 |.gW,v=>fun _=>by simp[AV.mT,AV.ok]
 |.d x,v=>fun hv=>by simp only[AV.mT,AV.ok]at hv⊢;exact xC hv
 |.own e j xs,v=>fun hv=>by
  simp only[AV.mT];split
  ·simp only[AV.ok]at hv⊢;exact xC hv.1
  ·rename_i hj;simp only[AV.ok]at hv⊢;obtain⟨h1,u,n,h2,h3⟩:=hv;exact⟨xC h1,u,n,by simpa[gY,hj]using h2,h3⟩
 |.ptr j off,v=>fun hv=>by
  simp only[AV.mT];split
  ·simp[AV.ok]
  ·rename_i hj;simp only[AV.ok]at hv⊢;obtain⟨b,h1,h2⟩:=hv;exact⟨b,by simpa[gY,hj]using h1,h2⟩
 |.oX e j off len,v=>fun hv=>by
  simp only[AV.mT];split
  ·rename_i hj;subst hj;split
   ·rename_i hc;obtain⟨rfl,hc,hc1⟩:=hc;simp only[AV.ok];rcases ho with⟨t,ho,hd⟩|⟨t,e,ho,hd⟩|⟨t,e,ho,hd,he1,hne⟩
    ·exact PY h ho hd hc hv
    ·have hob:=h.obs j;rw[ho]at hob;obtain⟨u,h4,_⟩:=hob;simp only[AV.ok]at hv;obtain⟨b,cap,h1,_⟩:=hv;rw[h1]at h4;cases h4
    ·obtain⟨d,hd'⟩:=List.exists_mem_of_ne_nil _ hne;exact absurd ((hd d hd').symm.trans (hc1 d hd')) he1
   ·rename_i hc1;split
    ·rename_i hc;obtain⟨rfl,rfl,hc⟩:=hc;simp only[AV.ok];exact MM h ho hc hc1 hv
    ·simp[AV.ok]
  ·rename_i hj;simp only[AV.ok]at hv⊢;obtain⟨b,cap,h1,h2⟩:=hv;exact⟨b,cap,by simpa[gY,hj]using h1,h2⟩
 |.pv cs,v=>fun hv=>by
  simp only[AV.mT,AV.ok]at hv⊢;obtain⟨b,o,vs,h1,h2,h3⟩:=hv;exact⟨b,o,vs,h1,h2.mono (fun _ _ _ hc hn=>⟨hc,fun h=>hn (Ck h)⟩),vN h3⟩
 |.agg cs,v=>fun hv=>by
  simp only[AV.mT,AV.ok]at hv⊢;obtain⟨vs,h1,h2,h3⟩:=hv;exact⟨vs,h1,h2,wG h ho cs _ h3⟩
 |.lE cs,v=>fun hv=>by
  simp only[AV.mT,AV.ok]at hv⊢;obtain⟨vs,h1,h3⟩:=hv;exact⟨vs,h1,wG h ho cs _ h3⟩
 |.fn f a b,v=>fun hv=>by
  simp only[AV.mT,AV.ok]at hv⊢;obtain⟨fs,cs,h1,h2,h3⟩:=hv;exact⟨fs,cs,h1,wG h ho a _ h2,wG h ho b _ h3⟩
 |.kL e j n,v=>fun hv=>by
  simp only[AV.mT];split
  ·rename_i hj;subst hj;split
   ·rename_i hc;obtain⟨rfl,hc⟩:=hc;simp only[AV.ok];rcases ho with⟨t,ho,hd⟩|⟨t,e,ho,hd⟩|⟨t,e,ho,hd,he1,hne⟩
    ·have hob:=h.obs j;rw[ho]at hob;obtain⟨b,vs,h4,_⟩:=hob;simp only[AV.ok]at hv;obtain⟨u,m,h1,_⟩:=hv;rw[h4]at h1;exact h1.elim
    ·exact PX h ho hc hv
    ·have hob:=h.obs j;rw[ho]at hob;obtain⟨b,vs,h4,_⟩:=hob;simp only[AV.ok]at hv;obtain⟨u,m,h1,_⟩:=hv;rw[h4]at h1;exact h1.elim
   ·simp[AV.ok]
  ·rename_i hj;simp only[AV.ok]at hv⊢;obtain⟨u,m,h1,h2⟩:=hv;exact⟨u,m,by simpa[gY,hj]using h1,h2⟩
 |.kP j k off,v=>fun hv=>by
  simp only[AV.mT];split
  ·simp[AV.ok]
  ·rename_i hj;simp only[AV.ok]at hv⊢;obtain⟨u,m,b,off',h1,h2⟩:=hv;exact⟨u,m,b,off',by simpa[gY,hj]using h1,h2⟩
 |.BC e xs,v=>fun hv=>by
  simp only[AV.mT,AV.ok]at hv⊢;obtain⟨a,h1,h2⟩:=hv;exact⟨a,h1,xC h2⟩
 |.dp x,v=>fun _=>by simp[AV.mT,AV.ok]
 |.mp j,v=>fun hv=>by
  simp only[AV.mT];split
  ·simp[AV.ok]
  ·rename_i hj;simp only[AV.ok]at hv⊢;obtain⟨b,h1,h2⟩:=hv;exact⟨b,by simpa[gY,hj]using h1,h2⟩
theorem wG(h:Inv C β s w)(ho:A0 s id ds):∀(xs:List AV)(vs:List Value),AV.ir β (C.gX β s) w xs vs->
 AV.ir (gY β id .no) (C.gX (gY β id .no) (su id ds s)) w (AV.oV id ds xs) vs
 |[],vs=>fun hv=>by simpa[AV.oV,AV.ir]using hv
 |x::xs,vs=>fun hv=>by
  simp only[AV.oV,AV.ir]at hv⊢;obtain⟨v,r,h1,h2,h3⟩:=hv;exact⟨v,r,h1,AE h ho x v h2,wG h ho xs r h3⟩
end
theorem Inv.mT(h:Inv C β s w)(hid:C.k<=id)(ho:A0 s id ds):Inv C (gY β id .no) (su id ds s) w where
 size:=h.size
 io:=h.io
 gl:=h.gl
 keep:=h.keep
 oE:=h.oE
 n_:=fun b o ho=>let⟨i,_,h1⟩:=zY ho;h.n_ b o ⟨i,h1⟩
 qM:=fun i b hb=>h.qM i b (xo hb).2
 pl:=fun i hi=>by
  have:i≠id:=by omega
  simpa[gY,this]using h.pl i hi
 low:=h.low
 obs:=fun i=>by
  rw[xX];by_cases hi:i=id
  ·subst hi;simp[uu,gY]
  ·simp only[hi,aF];have hob:=h.obs i;cases hs:sat s i with
   |dead=>rw[hs]at hob;simpa[Ob.mT,uu,gY,hi]using hob
   |obj t' cs=>
    rw[hs]at hob;obtain⟨b,vs,h1,h2,h0,h3⟩:=hob;exact⟨b,vs,by simpa[gY,hi]using h1,h2,h0,h3.imp fun _ hx=>wG h ho _ _ hx⟩
   |tok t' e n=>
    rw[hs]at hob;obtain⟨u,h1,h2⟩:=hob;exact⟨u,by simpa[gY,hi]using h1,h2⟩
   |kO t' e n cs=>
    rw[hs]at hob;obtain⟨u,h1,hl,h2⟩:=hob;refine⟨u,by simpa[gY,hi]using h1,hl,?_⟩;rcases h2 with h2|⟨b,cap,vs,k1,k2,k3,k4,k5,k6,pre,rest,k7,k8⟩
    ·exact .inl h2
    ·exact .inr ⟨b,cap,vs,k1,k2,k3,k4,k5,k6,pre,rest,k7,vN k8⟩
   |od t' e n cs=>
    rw[hs]at hob;obtain⟨u,bs,h1,h0,h2⟩:=hob;refine⟨u,bs,by simpa[gY,hi]using h1,h0,?_⟩;rw[AG];exact h2.imp (f:=AV.mT id ds) (β:=β) (O:=C.gX β s) (w:=w) (fun x v=>GI (AE h ho x v)) (fun _ _=>rfl) (fun _ _ _=>rfl)
   |lN e n cs=>
    rw[hs]at hob;obtain⟨u,bs,h1,h0,h2⟩:=hob;refine⟨u,bs,by simpa[gY,hi]using h1,h0,?_⟩;rw[AG];exact h2.imp (f:=AV.mT id ds) (β:=β) (O:=C.gX β s) (w:=w) (fun x v=>GI (AE h ho x v)) (fun _ _=>rfl) (fun _ _ _ _=>rfl)
   |mp P k es=>
    rw[hs]at hob;obtain⟨b,h1,h2⟩:=hob;exact⟨b,by simpa[gY,hi]using h1,h2.imp rfl fun x v hx=>xC hx⟩
 inj:=fun i j b hi hj=>h.inj i j b (xo hi).2 (xo hj).2
end
theorem vn(id:Nat)(ds:List D):∀(xs:List AV)(i:Nat),(AV.oV id ds xs)[i]?=(xs[i]?).map (AV.mT id ds)
 |[],_=>by simp[AV.oV]
 |x::xs,0=>by simp[AV.oV]
 |x::xs,i+1=>by simp[AV.oV,vn id ds xs i]
theorem xD(id:Nat)(ds:List D):∀(xs:List AV),(AV.oV id ds xs).length=xs.length
 |[]=>rfl
 |x::xs=>by simp[AV.oV,xD id ds xs]
theorem ij.PU{k:Nat}{env:List AV}{s:gU}(id:Nat){ds:List D}(hid:k<=id)(ho:A0 s id ds):
 ij k env s (AV.oV id ds env) (su id ds s):=fun C β a w hC hst=>by
 subst hC;refine⟨gY β id .no,hst.defers,hst.inv.mT hid ho,by rw[xD,hst.len],fun i x hx=>?_⟩;rw[vn]at hx;cases hx2:env[i]? with
 |none=>rw[hx2]at hx;cases hx
 |some y=>rw[hx2]at hx;cases hx;exact AE hst.inv ho y _ (hst.env i y hx2)
def aD{α:Type}(f:α->D)(x:α):AV:=.d (f x)
theorem HY{α:Type}(f:α->D)(xs:List α):xs.map (aD f)=(xs.map f).map .d:=by rw[eN];rfl
theorem P0{α:Type}[Inhabited α]{f:α->D}{xs:List α}{i:Nat}(h:i<xs.length):(xs.map (aD f)).getD i .gW=.d (f (xs.getD i default)):=by simp[av,bq,az h,aD]
theorem NZ{α:Type}{f:α->D}{xs:List α}{i:Nat}{v:α}(h:i<xs.length):List.take i (xs.map (aD f))++(AV.d (f v)::List.drop (i+1) (xs.map (aD f)))=(xs.set i v).map (aD f):=by
 rw[fN,cV,ah (by simpa using h)];rfl
theorem QL{k:IntKind}{n:Nat}{v:Int}:(List.replicate n [AV.d (.lit (.int k v))]).flatten=(List.replicate n v).map (aD fun v=>.lit (.int k v)):=by
 induction n with
 |zero=>rfl
 |succ n ih=>simp only[cy,cA,aN,ih];rfl
theorem qX{α:Type}{f:α->D}{x:AV}{v:α}(h:AV.le x (.d (f v))):∀n,iG (List.replicate n [x]).flatten ((List.replicate n v).map (aD f))
 |0=>trivial
 |n+1=>by simp only[cy,cA,aN,bZ,bh];exact⟨h,qX h n⟩
theorem Ee{xs:List AV}:iG xs xs<->True:=⟨fun _=>trivial,fun _=>.refl _⟩
theorem QK{n:Nat}{v:Int}:(List.replicate n [AV.d (iD v)]).flatten=(List.replicate n v).map (aD iD):=QL
theorem Co{id:Nat}{ds:List D}:AV.mT id ds .gW=.gW:=by simp only[AV.mT]
theorem ML{id:Nat}{ds:List D}{x:D}:AV.mT id ds (.d x)=.d x:=by simp only[AV.mT]
theorem Ew{id e j:Nat}{ds xs:List D}:AV.mT id ds (.own e j xs)=if j=id then .d (.sl e none xs)else .own e j xs:=by simp only[AV.mT]
theorem Ex{id j off:Nat}{ds:List D}:AV.mT id ds (.ptr j off)=if j=id then .gW else .ptr j off:=by simp only[AV.mT]
theorem AD{id e j off len:Nat}{ds:List D}(h:¬j=id):AV.mT id ds (.oX e j off len)=.oX e j off len:=by simp only[AV.mT,ak h]
class sU {α:Type} (f:α->D) (e:outParam Nat):Prop where
 len:∀x,(gT (f x)).length=e
theorem zJ{α:Type}{id n:Nat}{f:α->D}[sU f 1]{xs:List α}(h:xs.length=n):AV.mT id (xs.map f) (.oX 1 id 0 n)=.d (gS 1 f xs):=by
 simp only[AV.mT,aB,bG];rw[ah ⟨trivial,by simp[h],by rintro d hd;obtain⟨x,_,rfl⟩:=bw.1 hd;exact sU.len x⟩,bH (by simp[h])];rfl
theorem FR{α:Type}{id e n:Nat}{f:α->D}[sU f e]{xs:List α}(h:n=xs.length):AV.mT id (xs.map f) (.oX e id 0 n)=.d (gS e f xs):=by
 subst h;by_cases he:e=1
 ·subst he;exact zJ rfl
 ·simp only[AV.mT,aB];rw[ak fun h=>he h.1,ah ⟨trivial,by simp,by rintro d hd;obtain⟨x,_,rfl⟩:=bw.1 hd;exact sU.len x⟩];rfl
theorem Hy{id:Nat}{ds cs:List D}:AV.mT id ds (.pv cs)=.pv cs:=by simp only[AV.mT]
theorem Ev{id:Nat}{ds:List D}{cs:List AV}:AV.mT id ds (.agg cs)=.agg (AV.oV id ds cs):=by simp only[AV.mT]
theorem Ey{id:Nat}{ds:List D}{cs:List AV}:AV.mT id ds (.lE cs)=.lE (AV.oV id ds cs):=by simp only[AV.mT]
theorem Hx{id f:Nat}{ds:List D}{a b:List AV}:AV.mT id ds (.fn f a b)=.fn f (AV.oV id ds a) (AV.oV id ds b):=by simp only[AV.mT]
theorem Cp{id:Nat}{ds:List D}:AV.oV id ds []=[]:=by simp only[AV.oV]
theorem AF{id:Nat}{ds:List D}{x:AV}{xs:List AV}:AV.oV id ds (x::xs)=AV.mT id ds x::AV.oV id ds xs:=by simp only[AV.oV]
theorem I5{α:Type}{id:Nat}{ds:List D}{f:α->D}:∀xs:List α,AV.oV id ds (xs.map (aD f))=xs.map (aD f)
 |[]=>by simp only[dy,AV.oV]
 |x::xs=>by simp only[aN,AV.oV,I5 xs,aD,AV.mT]
theorem Qn{α:Type}{f:α->D}{xs:List α}:(xs.map f).map AV.d=xs.map (aD f):=(HY f xs).symm
theorem JC{α:Type}{ρ:Nat->Option Nat}{f:α->D}:∀xs:List α,AV.iz ρ (xs.map (aD f))=xs.map (aD f)
 |[]=>by simp only[dy,AV.iz]
 |x::xs=>by simp only[aN,AV.iz,JC xs,aD,AV.jW]
theorem JU{α:Type}{f:α->D}:∀xs:List α,AV.qu (xs.map (aD f))=some (xs.map f)
 |[]=>rfl
 |x::xs=>by simp only[aN,aD,AV.qu,ay];exact⟨_,JU xs,rfl⟩
theorem XA{α:Type}{f:α->D}{xs:List α}:AV.mk (xs.map (aD f))=.d (.agg (xs.map f)):=by unfold AV.mk;rw[JU]
def Yb{α:Type}(f:α->D)(xs:List α):D:=.agg (xs.map f)
theorem Dj{P:Program}{k0 f:Nat}{args env:List AV}{s:gU}{d:Option Nat}{R:List AV->gU->Prop}{α:Type}(id:Nat){t:Nat}(g:α->D)(xs:List α)(hid:k0<=id)
 (ho:sat s id=.obj t (xs.map (aD g))) (hd:∀x,gT (g x)=[g x]) (h:lK P k0 f (AV.oV id (xs.map g) args) (AV.oV id (xs.map g) env) (su id (xs.map g) s) d R):
 lK P k0 f args env s d R:=fun C β a w vs hC hst hvs=>by
 subst hC;have ho':sat s id=.obj t ((xs.map g).map .d):=by rw[ho,HY]
 have hd':∀d∈xs.map g,gT d=[d]:=fun d h=>by obtain⟨x,_,rfl⟩:=bw.1 h;exact hd x
 refine h C (gY β id .no) a w vs rfl ⟨hst.defers,hst.inv.mT hid (.inl ⟨t,ho',hd'⟩),by rw[xD,hst.len],fun i x hx=>?_⟩ (wG hst.inv (.inl ⟨t,ho',hd'⟩) _ _ hvs);rw[vn]at hx;cases hx2:env[i]? with
 |none=>rw[hx2]at hx;cases hx
 |some y=>rw[hx2]at hx;cases hx;exact AE hst.inv (.inl ⟨t,ho',hd'⟩) y _ (hst.env i y hx2)
theorem B_{P:Program}{k0 f:Nat}{args env:List AV}{s s':gU}{d:Option Nat}{R:List AV->gU->Prop}(hs:kj s s')(h:lK P k0 f args env s' d R):lK P k0 f args env s d R:=
 fun C β a w vs hC hst hvs=>by
 obtain⟨h1,hf⟩:=hst.inv.told hs.sat;exact h C β a w vs hC ⟨hst.defers,h1,hst.len,fun i y hy=>by rw[hf];exact hst.env i y hy⟩ (by rw[hf];exact hvs)
attribute [go_sem] Co ML Ew Ex AD zJ Hy Ev Ey Hx Cp AF I5 Qn JC XA Ob.mT su P0 NZ Ee List.flatten_cons List.flatten_nil QK Yb Nat.mul_one List.length_set List.length_replicate
def lq{α:Type}(f:α->D)(xs:List α):List D:=(xs.map f).flatMap gT
theorem FT{α:Type}{f:α->D}:lq f []=[]:=rfl
theorem nF{α:Type}{f:α->D}{x:α}{xs:List α}:lq f (x::xs)=gT (f x)++lq f xs:=by simp[lq]
theorem xF{α:Type}{f:α->D}{xs ys:List α}:lq f (xs++ys)=lq f xs++lq f ys:=by simp[lq]
theorem A9{α:Type}{f:α->D}{e:Nat}(he:∀x,(gT (f x)).length=e):∀xs:List α,(lq f xs).length=xs.length*e
 |[]=>by simp[lq]
 |x::xs=>by rw[nF,aq,he,A9 he xs,aQ,bT];omega
theorem AI{α:Type}{f:α->D}{e:Nat}(he:∀x,(gT (f x)).length=e):∀(xs:List α)(i k:Nat)[Inhabited α],i<xs.length->k<=e->
 List.drop (i*e+k) (lq f xs)=(gT (f (xs.getD i default))).drop k++lq f (xs.drop (i+1))
 |[],i,k,_,h,_=>by simp at h
 |x::xs,0,k,_,h,hk=>by
  rw[nF,ef,cg,dn (by rw[he];exact hk)];simp
 |x::xs,i+1,k,_,h,hk=>by
  have e1:(i+1)*e+k=(gT (f x)).length+(i*e+k):=by rw[he,bT];omega
  rw[nF,e1,List.drop_append,bu gN,bh,cK,AI he xs i k (by simpa using h) hk];simp
theorem DO{α:Type}{f:α->D}{e:Nat}(he:∀x,(gT (f x)).length=e):∀(xs:List α)(i k:Nat)[Inhabited α],i<xs.length->k<=e->
 List.take (i*e+k) (lq f xs)=lq f (xs.take i)++(gT (f (xs.getD i default))).take k
 |[],i,k,_,h,_=>by simp at h
 |x::xs,0,k,_,h,hk=>by
  rw[nF,ef,cg,cO (by rw[he];exact hk)];simp[lq]
 |x::xs,i+1,k,_,h,hk=>by
  have e1:(i+1)*e+k=(gT (f x)).length+(i*e+k):=by rw[he,bT];omega
  rw[nF,e1,List.take_append,bH gN,cK,DO he xs i k (by simpa using h) hk,cG,nF,aG];simp
theorem Kv{α:Type}[Inhabited α]{f:α->D}{e:Nat}(he:∀x,(gT (f x)).length=e){xs:List α}{i k:Nat}(hi:i<xs.length)(hk:k<e){d:D}:
 (lq f xs).getD (i*e+k) d=(gT (f (xs.getD i default))).getD k d:=by
 have h:=AI he xs i k hi gN;have h1:(lq f xs).getD (i*e+k) d=(List.drop (i*e+k) (lq f xs)).getD 0 d:=by simp[av]
 have h2:k<(gT (f (xs.getD i default))).length:=by rw[he];exact hk
 rw[h1,h];simp only[av];rw[aT (by rw[de,he];omega),cE];simp
theorem Inv.X9{C:Ctx}{β:gZ}{s:gU}{w:World}(h:Inv C β s w){id t e:Nat}(ho:sat s id=.tok t e 0):
 Inv C β (sset s id (.kO t e 0 [])) w/\C.gX β (sset s id (.kO t e 0 []))=C.gX β s:=by
 have hown:∀b o,own β (sset s id (.kO t e 0 [])) b o<->own β s b o:=fun b o=>by
  unfold own;refine exists_congr fun i=>?_
  rw[jv];by_cases hi:i=id
  ·subst hi;rw[ho];simp
  ·rw[ak hi]
 have hblk:∀i b,gR β (sset s id (.kO t e 0 [])) i b<->gR β s i b:=fun i b=>by
  unfold gR;rw[jv];by_cases hi:i=id
  ·subst hi;rw[ho];simp
  ·rw[ak hi]
 have hf:C.gX β (sset s id (.kO t e 0 []))=C.gX β s:=by funext b o;exact propext (or_congr c_ (hown b o))
 refine⟨⟨h.size,h.io,h.gl,h.keep,h.oE,fun b o ho=>h.n_ b o ((hown b o).1 ho),fun id b hb=>h.qM id b ((hblk id b).1 hb),h.pl,h.low,fun i=>?_,
  fun i j b hi hj=>h.inj i j b ((hblk i b).1 hi) ((hblk j b).1 hj)⟩,hf⟩
 rw[hf,jv];have h1:=h.obs i;by_cases hi:i=id
 ·subst hi;rw[ho]at h1;obtain⟨u,h2,h3⟩:=h1;simp only[aB];refine⟨u,h2,by simp,?_⟩;rcases h3 with h3|⟨b,cap,vs,k1,k2,k3,k4,k5,k6⟩
  ·exact .inl h3
  ·exact .inr ⟨b,cap,vs,k1,k2,k3,k4,k5,k6,[],vs.toList,rfl,by simp[D.ir]⟩
 ·rw[ak hi];exact h1
theorem A0.kO{α:Type}{s:gU}{id t e:Nat}(f:α->D)(xs:List α)(ho:sat s id=.kO t e xs.length (lq f xs))(he:∀x,(gT (f x)).length=e):A0 s id (xs.map f):=
 .inr (.inl ⟨t,e,by rw[aK];exact ho,fun d hd=>by obtain⟨x,_,rfl⟩:=bw.1 hd;exact he x⟩)
theorem ij.PV{α:Type}{k:Nat}{env:List AV}{s:gU}(id:Nat){t e:Nat}(f:α->D)(xs:List α)(hid:k<=id)(ho:sat s id=.kO t e xs.length (lq f xs))(he:∀x,(gT (f x)).length=e):
 ij k env s (AV.oV id (xs.map f) env) (su id (xs.map f) s):=ij.PU id hid (.kO f xs ho he)
theorem MO{α:Type}{id e:Nat}{f:α->D}(he:∀x,(gT (f x)).length=e){xs:List α}:AV.mT id (xs.map f) (.kL e id xs.length)=.d (gS e f xs):=by
 simp only[AV.mT,aB];rw[ah ⟨by simp,fun d hd=>by obtain⟨x,_,rfl⟩:=bw.1 hd;exact he x⟩];rfl
theorem AB{id e j n:Nat}{ds:List D}(h:¬j=id):AV.mT id ds (.kL e j n)=.kL e j n:=by simp only[AV.mT,ak h]
theorem Cn{id j k off:Nat}{ds:List D}:AV.mT id ds (.kP j k off)=if j=id then .gW else .kP j k off:=by simp only[AV.mT]
def iV(k:Nat)(x:AV)(s:gU)(y:AV)(t:gU):Prop:=∀(C:Ctx)(β:gZ)(w:World)(v:Value),C.k=k->Inv C β s w->AV.ok β (C.gX β s) w x v->
 ∃β',Inv C β' t w/\AV.ok β' (C.gX β' t) w y v
theorem iV.refl{k:Nat}{x:AV}{s:gU}:iV k x s x s:=fun _ β _ _ _ h1 h2=>⟨β,h1,h2⟩
theorem iV.trans{k:Nat}{x y z:AV}{s t u:gU}(h1:iV k x s y t)(h2:iV k y t z u):iV k x s z u:=fun C β w v hC h3 h4=>let⟨β1,h5,h6⟩:=h1 C β w v hC h3 h4;h2 C β1 w v hC h5 h6
theorem iV.told{k:Nat}{x y:AV}{s t:gU}(hx:AV.le x y)(hs:kj s t):iV k x s y t:=fun C β w v _ h3 h4=>by
 obtain⟨h1,hf⟩:=h3.told hs.sat;exact⟨β,h1,by rw[hf];exact hx _ _ _ _ h4⟩
theorem iV.xy{k:Nat}{x:AV}{s:gU}(ids:List Nat)(hi:∀i∈ids,k<=i):iV k x s (zf ids x) (Be ids s):=fun C β w v hC h3 h4=>by
 subst hC;obtain⟨β1,h1,h2⟩:=h3.xy hi;exact⟨β1,h1,h2 _ _ h4⟩
theorem iV.mT{k:Nat}{x:AV}{s:gU}(id:Nat){ds:List D}(hid:k<=id)(ho:A0 s id ds):iV k x s (x.mT id ds) (su id ds s):=fun C β w v hC h3 h4=>by
 subst hC;exact⟨_,h3.mT hid ho,AE h3 ho _ _ h4⟩
theorem h_.done{P:Program}{f:Nat}{args:List AV}{s:gU}{k:Nat}{y:AV}{t:gU}(h:h_ P f args s k fun x s'=>iV k x s' y t):h_ P f args s k fun x s'=>x=y/\s'=t:=fun C vs h1 h2 h3 h4=>
 (h C vs h1 h2 h3 h4).mono fun _ w' ⟨v,_,β',_,e1,e2,e3,e4⟩=>let⟨β2,h5,h6⟩:=e4 C β' w' v h2 e2 e3;⟨v,y,β2,t,e1,h5,h6,rfl,rfl⟩
theorem jV.Ay{P:Program}{f:Nat}{mc:gV}{n:Nat}{rs:List rW}(h:jV P f mc n rs){args:List AV}{s t:gU}{k:Nat}{y:AV}
 (hm:ng P k mc (FN rs fun x s'=>iV k x s' y t) (args++List.replicate (n-args.length) .gW) s):h_ P f args s k fun x s'=>x=y/\s'=t:=h_.done (h.calls hm)
def si(i j:Nat):Nat->Option Nat:=fun q=>if q=i then some j else if q=j then none else some q
def qy(i j:Nat)(β:gZ):gZ:=fun q=>if q=j then β i else if q=i then .no else β q
def tO(i j:Nat)(ob:Ob):gU->gU
 |[]=>[(j,ob)]
 |(q,x)::r=>if q=i\/q=j then tO i j ob r else(q,x.jW (si i j))::tO i j ob r
theorem AU(i j:Nat)(ob:Ob)(q:Nat):∀s:gU,sat (tO i j ob s) q=if q=j then ob else if q=i then .dead else(sat s q).jW (si i j)
 |[]=>by by_cases h:q=j<;>simp[tO,sat,h,Ob.jW]
 |(p,x)::r=>by
  simp only[tO];by_cases hp:p=i\/p=j
  ·rw[ah hp,AU i j ob q r];by_cases h1:q=j
   ·simp[h1]
   ·by_cases h2:q=i
    ·simp[h2]
    ·have:q≠p:=by rintro rfl;exact hp.elim h2 h1
     simp only[h1,h2,aF,sat,this]
  ·rw[ak hp];simp only[sat,AU i j ob q r];by_cases h1:q=p
   ·subst h1;have h2:¬q=i:=fun e=>hp (.inl e)
    have h3:¬q=j:=fun e=>hp (.inr e)
    simp[h2,h3]
   ·simp[h1]
theorem Inv.XB{C:Ctx}{β:gZ}{s s':gU}{w:World}(h:Inv C β s w){i j:Nat}(hi:C.k<=i)(hj:C.k<=j)(hij:i≠j)(hd:sat s j=.dead)
 (hs:∀q,sat s' q=if q=j then(sat s i).jW (si i j)else if q=i then .dead else(sat s q).jW (si i j)):
 Inv C (qy i j β) s' w/\∀x v,AV.ok β (C.gX β s) w x v->AV.ok (qy i j β) (C.gX (qy i j β) s') w (x.jW (si i j)) v:=by
 have from_:∀q,(q=i/\sat s' q=.dead)\/∃p,sat s' q=(sat s p).jW (si i j)/\qy i j β q=β p/\(p=if q=j then i else q):=fun q=>by
  by_cases h1:q=j
  ·subst h1;exact .inr ⟨i,by rw[hs,ah rfl],by simp[qy],by simp⟩
  ·by_cases h2:q=i
   ·subst h2;exact .inl ⟨rfl,by rw[hs,ak h1,ah rfl]⟩
   ·exact .inr ⟨q,by rw[hs,ak h1,ak h2],by simp[qy,h1,h2],by simp[h1]⟩
 have hown:∀b o,own (qy i j β) s' b o<->own β s b o:=fun b o=>by
  constructor
  ·rintro⟨q,hq⟩;rcases from_ q with⟨_,h1⟩|⟨p,h1,h2,_⟩
   ·rw[h1]at hq;exact hq.elim
   ·exact⟨p,(rm (i:=p) (j:=q) h2 h1).1 hq⟩
  ·rintro⟨p,hp⟩;by_cases h1:p=i
   ·subst h1;exact⟨j,(rm (i:=p) (j:=j) (ρ:=si p j) (by simp[qy]) (by rw[hs,ah rfl])).2 hp⟩
   ·by_cases h2:p=j
    ·subst h2;rw[hd]at hp;exact hp.elim
    ·exact⟨p,(rm (i:=p) (j:=p) (ρ:=si i j) (by simp[qy,h1,h2]) (by rw[hs,ak h2,ak h1])).2 hp⟩
 have hblk:∀q b,gR (qy i j β) s' q b->∃p,gR β s p b/\(p=if q=j then i else q)/\(q=j\/q≠i):=fun q b hq=>by
  rcases from_ q with⟨_,h1⟩|⟨p,h1,h2,h3⟩
  ·unfold gR at hq;rw[h1]at hq;exact hq.elim
  ·refine⟨p,(vl h2 h1).1 hq,h3,?_⟩;by_cases h4:q=j
   ·exact .inl h4
   ·refine .inr fun h5=>?_
    subst h5;unfold gR at hq;rw[hs,ak h4,ah rfl]at hq;exact hq.elim
 have hf:C.gX (qy i j β) s'=C.gX β s:=by funext b o;exact propext (or_congr c_ (hown b o))
 have hρ:∀a b,si i j a=some b->qy i j β b=β a:=fun a b hab=>by
  unfold si at hab;split at hab
  ·rename_i h1;cases hab;subst h1;simp[qy]
  ·split at hab
   ·cases hab
   ·rename_i h1 h2;cases hab;simp[qy,h1,h2]
 refine⟨⟨h.size,h.io,h.gl,h.keep,h.oE,fun b o ho=>h.n_ b o ((hown b o).1 ho),fun q b hb=>let⟨p,hp,_⟩:=hblk q b hb;h.qM p b hp,fun q hq=>?_,h.low,fun q=>?_,fun q q' b h1 h2=>?_⟩,
  fun x v hx=>by rw[hf];exact AV.sP hρ x v hx⟩
 ·have h1:q≠i:=by omega
  have h2:q≠j:=by omega
  simpa[qy,h1,h2]using h.pl q hq
 ·rw[hf];rcases from_ q with⟨h0,h1⟩|⟨p,h1,h2,_⟩
  ·rw[h1];subst h0;simp[uu,qy,hij]
  ·rw[h1];have ho:=h.obs p;cases hp:sat s p with
   |dead=>rw[hp]at ho;exact h2.trans ho
   |obj t cs=>rw[hp]at ho;obtain⟨b,vs,k1,k2,k3,k4⟩:=ho;exact⟨b,vs,h2.trans k1,k2,k3,k4.imp fun _ hx=>AV.tW hρ _ _ hx⟩
   |tok t e n=>rw[hp]at ho;obtain⟨u,k1,k2⟩:=ho;exact⟨u,h2.trans k1,k2⟩
   |kO t e n cs=>rw[hp]at ho;obtain⟨u,k1,k2⟩:=ho;exact⟨u,h2.trans k1,k2⟩
   |od t e n cs=>
    rw[hp]at ho;obtain⟨u,bs,k1,k0,k2⟩:=ho;refine⟨u,bs,h2.trans k1,k0,?_⟩;show Fc _ _ _ _ _ _ _ _ (AV.iz _ cs);rw[jJ];exact k2.imp (fun x v=>nR fun hx=>AV.sP hρ _ _ hx) (fun _ _=>rfl) (fun _ _ _=>rfl)
   |lN e n cs=>
    rw[hp]at ho;obtain⟨u,bs,k1,k0,k2⟩:=ho;refine⟨u,bs,h2.trans k1,k0,?_⟩;show Fe _ _ _ _ _ _ _ (AV.iz _ cs);rw[jJ];exact k2.imp (fun x v=>nR fun hx=>AV.sP hρ _ _ hx) (fun _ _=>rfl) (fun _ _ _ _=>rfl)
   |mp P k es=>rw[hp]at ho;obtain⟨b,k1,k2⟩:=ho;exact⟨b,h2.trans k1,k2⟩
 ·obtain⟨p,hp,e1,e2⟩:=hblk q b h1;obtain⟨p',hp',e3,e4⟩:=hblk q' b h2;have:=h.inj p p' b hp hp';subst this;rw[e1]at e3;by_cases h5:q=j<;>by_cases h6:q'=j<;>simp[h5,h6]at e3 e2 e4⊢<;>first|exact e3|exact absurd e3.symm e4|exact absurd e3 e2|skip
theorem iV.move{k:Nat}{x:AV}{s:gU}(i j:Nat){ob:Ob}(hi:k<=i)(hj:k<=j)(hij:i≠j)(hd:sat s j=.dead)(ho:(sat s i).jW (si i j)=ob):
 iV k x s (x.jW (si i j)) (tO i j ob s):=fun C β w v hC h3 h4=>by
 subst hC;obtain⟨h5,h6⟩:=h3.XB (s':=tO i j ob s) hi hj hij hd fun q=>by rw[AU,ho]
 exact⟨_,h5,h6 x v h4⟩
class zm {α:Type} (f:α->D):Prop where
 one:∀x,gT (f x)=[f x]
instance:sU iD 1:=⟨fun _=>rfl⟩
instance:sU bD 1:=⟨fun _=>rfl⟩
instance{k:IntKind}:sU (kD k) 1:=⟨fun _=>rfl⟩
instance:sU sD 1:=⟨fun _=>rfl⟩
instance{α:Type}{e:Nat}{f:α->D}:sU (gS e f) 1:=⟨fun _=>rfl⟩
instance:zm iD:=⟨fun _=>rfl⟩
instance:zm bD:=⟨fun _=>rfl⟩
instance{k:IntKind}:zm (kD k):=⟨fun _=>rfl⟩
instance:zm sD:=⟨fun _=>rfl⟩
instance{α:Type}{e:Nat}{f:α->D}:zm (gS e f):=⟨fun _=>rfl⟩
section
variable{α:Type}[Inhabited α]{f:α->D}{e:Nat}{xs ys:List α}{i k n:Nat}{y:α}{d:D}{ds:List D}
theorem FU[sU f e](hi:i<xs.length)(hk:0<e):(lq f xs).getD (i*e) d=(gT (f (xs.getD i default))).getD 0 d:=Kv (k:=0) sU.len hi hk
theorem MV[sU f 1](hi:i<xs.length):(lq f xs).getD i d=(gT (f (xs.getD i default))).getD 0 d:=by have:=FU (f:=f) (e:=1) (d:=d) hi gN;rwa [Nat.mul_one]at this
omit [Inhabited α]in
theorem I7[sU f e]:(lq f xs).length=xs.length*e:=A9 sU.len xs
omit [Inhabited α]in
theorem MU:List.flatMap gT (List.map f ys)=lq f ys:=rfl
omit [Inhabited α]in
theorem P1:lq f xs++lq f ys=lq f (xs++ys):=xF.symm
omit [Inhabited α]in
theorem I8[zm f]:lq f xs=xs.map f:=by
 induction xs with
 |nil=>rfl
 |cons x xs ih=>rw[nF,zm.one,ih];rfl
omit [Inhabited α]in
theorem Kx[zm f]:lq f xs++f y::ds=lq f (xs++[y])++ds:=by rw[xF,nF,zm.one,FT,aG];rfl
omit [Inhabited α]in
theorem FV[zm f](hi:i<xs.length):List.take i (lq f xs)++f y::List.drop (i+1) (lq f xs)=lq f (xs.set i y):=by rw[I8,I8,fN,cV,ah (by simpa using hi)]
omit [Inhabited α]in
theorem Kw[zm f](hi:i<xs.length):List.take i (lq f xs)++[f y]++List.drop (i+1) (lq f xs)=lq f (xs.set i y):=by rw[aG];exact FV hi
omit [Inhabited α]in
theorem MN[sU f e]{id:Nat}:AV.mT id (xs.map f) (.kL e id xs.length)=.d (gS e f xs):=MO sU.len
omit [Inhabited α]in
theorem ij.PT[sU f e]{k0 t:Nat}{env:List AV}{s:gU}(id:Nat)(f':α->D)(hf:f'=f)(xs:List α)(hid:k0<=id)(ho:sat s id=.kO t e xs.length (lq f xs)):
 ij k0 env s (AV.oV id (xs.map f') env) (su id (xs.map f') s):=by subst hf;exact ij.PV id f' xs hid ho sU.len
omit [Inhabited α]in
theorem iV.Zf[sU f e]{k0 t:Nat}{x:AV}{s:gU}(id:Nat)(f':α->D)(hf:f'=f)(xs:List α)(hid:k0<=id)(ho:sat s id=.kO t e xs.length (lq f xs)):
 iV k0 x s (x.mT id (xs.map f')) (su id (xs.map f') s):=by subst hf;exact iV.mT id hid (.kO f' xs ho sU.len)
end
attribute [go_sem] FU MV I7 MU P1 Kx FV Kw nF FT
attribute [go_sem] AB Cn
theorem Kh{e id n:Nat}:AV.cells (.kL e id n)=some [.kL e id n]:=rfl
theorem Ho{id k off:Nat}:AV.cells (.kP id k off)=some [.kP id k off]:=rfl
theorem Oj{e id n:Nat}{xs:List AV}:AV.qu (.kL e id n::xs)=none:=rfl
theorem Lb{id k off:Nat}{xs:List AV}:AV.qu (.kP id k off::xs)=none:=rfl
attribute [go_sem] Kh Ho Oj Lb si tO
theorem h_.Vl{P:Program}{f:Nat}{args:List AV}{s:gU}{k:Nat}{z:AV}(h:h_ P f args s k fun x s'=>∃y t,iV k x s' y t/\AV.le y z):h_ P f args s k fun x _=>x=z:=fun C vs h1 h2 h3 h4=>
 (h C vs h1 h2 h3 h4).mono fun _ w' ⟨v,_,β',_,e1,e2,e3,_,t,e4,e5⟩=>let⟨β2,h5,h6⟩:=e4 C β' w' v h2 e2 e3;⟨v,z,β2,t,e1,h5,e5 _ _ _ _ h6,rfl⟩
theorem jV.S3{P:Program}{f:Nat}{mc:gV}{n:Nat}{rs:List rW}(h:jV P f mc n rs){args:List D}{r:D}
 (hm:ng P 0 mc (FN rs fun x s'=>∃y t,iV 0 x s' y t/\AV.le y (.d r)) (args.map .d++List.replicate (n-(args.map AV.d).length) .gW) []):jF P f args r:=h_.Vl (h.calls hm)
section
variable{α:Type}{f:α->D}{e:Nat}{xs:List α}
theorem Cm[sU f e]{id n:Nat}(h:n=xs.length):AV.mT id (xs.map f) (.kL e id n)=.d (gS e f xs):=by subst h;exact MN
theorem ij.PW[sU f e]{k0 t n:Nat}{env:List AV}{s:gU}{ds:List D}(id:Nat)(f':α->D)(hf:f'=f)(xs:List α)(hid:k0<=id)(ho:sat s id=.kO t e n ds)(hn:n=xs.length)(hs:ds=lq f xs):
 ij k0 env s (AV.oV id (xs.map f') env) (su id (xs.map f') s):=by subst hn;subst hs;exact ij.PT id f' hf xs hid ho
theorem iV.Zh[sU f e]{k0 t n:Nat}{x:AV}{s:gU}{ds:List D}(id:Nat)(f':α->D)(hf:f'=f)(xs:List α)(hid:k0<=id)(ho:sat s id=.kO t e n ds)(hn:n=xs.length)(hs:ds=lq f xs):
 iV k0 x s (x.mT id (xs.map f')) (su id (xs.map f') s):=by subst hn;subst hs;exact iV.Zf id f' hf xs hid ho
end
attribute [go_sem] Cm
theorem Vq{d:D}{ds:List D}:List.flatMap gT (d::ds)=gT d++List.flatMap gT ds:=cY
theorem Vr:List.flatMap gT []=[]:=rfl
attribute [go_sem] Vq Vr
def oD{α:Type}(t:Prop)(x:Option α)(P:α->Prop):Prop:=(∀a,x=some a->P a)/\(t->∃a,x=some a)
theorem oD.some{α:Type}{t:Prop}{a:α}{P:α->Prop}(h:P a):oD t (Option.some a) P:=⟨fun b hb=>by cases hb;exact h,fun _=>⟨a,rfl⟩⟩
theorem oD.bind{α β:Type}{t:Prop}{x:Option α}{f:α->Option β}{P:α->Prop}{Q:β->Prop}(h:oD t x P)(hf:∀a,P a->oD t (f a) Q):oD t (x.bind f) Q:=
 ⟨fun b hb=>let⟨a,h1,h2⟩:=ai.1 hb;(hf a (h.1 a h1)).1 b h2,fun ht=>by
  obtain⟨a,ha⟩:=h.2 ht;obtain⟨b,hb⟩:=(hf a (h.1 a ha)).2 ht;exact⟨b,by rw[ha,aa,hb]⟩⟩
theorem oD.weak{α:Type}{t t':Prop}{x:Option α}{P:α->Prop}(h:oD t x P)(ht:t'->t):oD t' x P:=⟨h.1,fun hx=>h.2 (ht hx)⟩
theorem oD.inr{σ β:Type}{t:Prop}{x:Option β}{P:σ⊕β->Prop}(h:oD t x fun b=>P (.inr b)):oD t (x.map Sum.inr) P:=
 ⟨fun a ha=>by
  cases x with
  |none=>cases ha
  |some b=>cases ha;exact h.1 b rfl,fun ht=>let⟨a,ha⟩:=h.2 ht;⟨.inr a,by rw[ha];rfl⟩⟩
theorem oD.eq{α:Type}{x:Option α}{a:α}(h:oD True x (·=a)):x=Option.some a:=by obtain⟨b,hb⟩:=h.2 trivial;rw[hb,h.1 b hb]
theorem oD.get{α:Type}{x:Option α}{P:α->Prop}(h:oD True x P):∃a,x=Option.some a/\P a:=by obtain⟨b,hb⟩:=h.2 trivial;exact⟨b,hb,h.1 b hb⟩
theorem oD.OZ{α β:Type}{t:Prop}{xs:List α}{a b:Option β}{P:β->Prop}(h:oD t b P)(he:xs=[]->a=b):oD t (J1 xs a b) P:=by
 unfold J1;split
 ·rename_i hx;rw[ah (he hx)];exact h
 ·exact h
def yV{σ β:Type}(inv:σ->Prop)(μ:σ->Nat)(Q:β->Prop)(m:Nat):σ⊕β->Prop
 |.inl s'=>inv s'/\μ s'<m
 |.inr b=>Q b
theorem oD.loop{σ β:Type}{t:Prop}{f:σ->Option (σ⊕β)}{Q:β->Prop}(inv:σ->Prop)(μ:σ->Nat){s:σ}(h0:inv s)(h:∀s,inv s->oD t (f s) (yV inv μ Q (μ s))):oD t (g_ f s) Q:=by
 constructor
 ·intro b hb;obtain⟨n,hn⟩:=qd hb;clear hb;induction n generalizing s with
  |zero=>exact hn.elim
  |succ n ih=>
   rcases hn with hn|⟨s',hs,hn⟩
   ·exact(h s h0).1 _ hn
   ·exact ih ((h s h0).1 _ hs).1 hn
 ·intro ht;have key:∀n s,μ s=n->inv s->∃b,g_ f s=Option.some b:=by
   intro n;induction n using Nat.strongRecOn with
   |_ n ih=>
    intro s hn hs;obtain⟨r,hr⟩:=(h s hs).2 ht;have:=(h s hs).1 r hr;cases r with
    |inl s'=>obtain⟨b,hb⟩:=ih (μ s') (hn▸this.2) s' rfl this.1;exact⟨b,by rw[iB hr,hb]⟩
    |inr b=>exact⟨b,ie hr⟩
  exact key _ s rfl h0
theorem oD.Z_{α:Type}{t:Prop}{f:Nat->Option α}{P:α->Prop}(m:Nat)(h:∀n,oD (m<=n) (f n) P):oD t (Dr f) P:=by
 constructor
 ·intro a ha;obtain⟨n,hn⟩:=vS ha;exact(h n).1 a hn
 ·intro _;obtain⟨a,ha⟩:=(h m).2 (aC _);have hx:∃a n,f n=Option.some a:=⟨a,m,ha⟩;unfold Dr;rw[dif_pos hx];exact⟨_,rfl⟩
def nZ{α:Type}(e:Nat)(f:α->D)(xs:List α):D:=.sl e (some xs.isEmpty) (xs.map f)
section
variable{α:Type}{e id:Nat}{f:α->D}{xs:List α}{O:Own}{w:World}
theorem Q0:qt (.d (nZ e f xs))=some (e,xs.map f):=rfl
theorem Qs:yu (.d (nZ e f xs))=some xs.isEmpty:=rfl
theorem Kk:AV.cells (.d (nZ e f xs))=some [.d (nZ e f xs)]:=rfl
theorem G0:AV.BU (.d (nZ e f xs))=none:=rfl
theorem Hs:gT (nZ e f xs)=[nZ e f xs]:=rfl
theorem DL.nz(h:0<xs.length):DL (gS e f xs) (nZ e f xs):=fun O w v hv=>by
 simp only[gS,nZ,D.ok]at hv⊢;obtain⟨a,cap,h1,h2,_,h4⟩:=hv;refine⟨a,cap,h1,h2,?_,h4⟩;have hne:xs≠[]:=cc.1 h;have he:xs.isEmpty=false:=by simpa using hne
 rcases h4 with h4|⟨b,o,rfl,_⟩
 ·exact absurd (List.map_eq_nil_iff.1 h4) hne
 ·simp[JY,he]
theorem DL.SX:DL (nZ e f xs) (gS e f xs):=DL.forget
theorem DL.Uh{e':Nat}:DL (.sl e' (some true) []) (nZ e f []):=fun O w v hv=>by
 simp only[nZ,D.ok,dy]at hv⊢;obtain⟨a,cap,h1,h2,h3,h4⟩:=hv;exact⟨a,cap,h1,h2,h3,.inl trivial⟩
theorem yq(h:0<xs.length):AV.le (.d (gS e f xs)) (.d (nZ e f xs))<->True:=⟨fun _=>trivial,fun _=>AV.wI (DL.nz h)⟩
theorem uA(h:0<xs.length):AV.le (.own e id (xs.map f)) (.d (nZ e f xs))<->True:=⟨fun _=>trivial,fun _=>AV.Qb fun O w v hv=>DL.nz h O w v hv⟩
theorem HN{e':Nat}:AV.le (.d (.sl e' (some true) [])) (.d (nZ e f []))<->True:=⟨fun _=>trivial,fun _=>AV.wI DL.Uh⟩
end
theorem NL{α:Type}{e e':Nat}{f:α->D}{O:Own}{w:World}{b:Nat}:∀{o:Nat}{xs:List (List α)},D.row O w b o e (xs.map (nZ e' f))->D.row O w b o e (xs.map (gS e' f))
 |_,[],h=>h
 |o,x::xs,h=>by
  simp only[aN,nZ,gS,D.row]at h⊢;obtain⟨⟨v,h1,h2,h3⟩,h4⟩:=h;exact⟨⟨v,h1,h2,DL.SX _ _ _ h3⟩,NL h4⟩
theorem DL.X3{α:Type}{e e':Nat}{f:α->D}{nl:Option Bool}{xs:List (List α)}:DL (.sl e nl (xs.map (nZ e' f))) (.sl e none (xs.map (gS e' f))):=fun O w v hv=>by
 simp only[D.ok,aK,List.map_eq_nil_iff]at hv⊢;obtain⟨a,cap,h1,h2,_,h4⟩:=hv;refine⟨a,cap,h1,h2,trivial,h4.imp (fun h=>h) ?_⟩;rintro⟨b,o,h5,h6⟩;exact⟨b,o,h5,NL h6⟩
instance{α:Type}{e:Nat}{f:α->D}:sU (nZ e f) 1:=⟨fun _=>rfl⟩
instance{α:Type}{e:Nat}{f:α->D}:zm (nZ e f):=⟨fun _=>rfl⟩
theorem iG.set:∀{xs:List AV}{i:Nat}{a b:AV},AV.le a b->iG (xs.set i a) (xs.set i b)
 |[],_,_,_,_=>trivial
 |_::xs,0,_,_,h=>⟨h,.refl xs⟩
 |x::_,i+1,_,_,h=>⟨AV.le_refl x,iG.set h⟩
theorem Qd{α:Type}{f:α->D}{xs:List α}{i:Nat}{a:AV}{v:α}(h:i<xs.length)(hle:AV.le a (.d (f v))):
 iG (List.take i (xs.map (aD f))++(a::List.drop (i+1) (xs.map (aD f)))) ((xs.set i v).map (aD f)):=by
 have e1:List.take i (xs.map (aD f))++(a::List.drop (i+1) (xs.map (aD f)))=(xs.map (aD f)).set i a:=by rw[cV,ah (by simpa using h)]
 rw[e1,fN];exact iG.set hle
attribute [go_sem] Q0 Qs Kk G0 Hs HN
theorem kz{α β:Type}{f:α->β}{l:List α}{n:Nat}:List.take n (List.map f l)=List.map f (List.take n l):=List.map_take.symm
theorem kr{α β:Type}{f:α->β}{l:List α}{n:Nat}:List.drop n (List.map f l)=List.map f (List.drop n l):=List.map_drop.symm
theorem lO{α:Type}{l:List α}{n:Nat}(h:l.length<=n):List.take n l=l:=bH h
theorem lM{α:Type}{l:List α}{n:Nat}(h:l.length<=n):List.drop n l=[]:=bu h
theorem By:kj [] []:=trivial
theorem yE{i:Nat}{x y:Ob}{r r':gU}(h:vF x y)(hr:kj r r'):kj ((i,x)::r) ((i,y)::r'):=⟨rfl,h,hr⟩
theorem Gb{α:Type}{f:α->D}{xs:List α}{i:Nat}{a:AV}{v:α}(h:i<xs.length)(hle:AV.le a (.d (f v))):
 iG (List.map (aD f) (List.take i xs)++[a]++List.map (aD f) (List.drop (i+1) xs)) ((xs.set i v).map (aD f)):=by
 have:=Qd (f:=f) (xs:=xs) (i:=i) (a:=a) (v:=v) h hle;rw[aG];simpa only[bI,bJ,bZ,bh]using this
theorem TH:iG [] []:=trivial
theorem TG{x y:AV}{xs ys:List AV}(h:AV.le x y)(h':iG xs ys):iG (x::xs) (y::ys):=⟨h,h'⟩
theorem TE:pQ [] []:=trivial
theorem TD{x y:D}{xs ys:List D}(h:D.le x y)(h':pQ xs ys):pQ (x::xs) (y::ys):=⟨h,h'⟩
theorem wD{e e':Nat}{nl:Option Bool}:D.le (.sl e nl []) (.sl e' none []):=fun O w vs h=>by
 simp only[D.FA]at h⊢;obtain⟨v,h1,h2⟩:=h;exact⟨v,h1,DL.nil _ _ _ h2⟩
theorem qW{e:Nat}{nl:Option Bool}{xs:List D}:D.le (.sl e nl xs) (.sl e none xs):=fun O w vs h=>by
 simp only[D.FA]at h⊢;obtain⟨v,h1,h2⟩:=h;exact⟨v,h1,DL.forget _ _ _ h2⟩
theorem wC{xs ys:List D}(h:Tl xs ys):D.le (.agg xs) (.agg ys):=fun O w vs hv=>by
 simp only[D.FA]at hv⊢;exact h.ir hv
theorem HO{α:Type}{e:Nat}{f:α->D}{xs:List α}:AV.le (.d (nZ e f xs)) (.d (.sl e none (xs.map f)))<->True:=⟨fun _=>trivial,fun _=>AV.wI DL.SX⟩
theorem HQ{α:Type}{e e':Nat}{f:α->D}{xs:List (List α)}:AV.le (.d (.sl e none (xs.map (nZ e' f)))) (.d (.sl e none (xs.map (gS e' f))))<->True:=⟨fun _=>trivial,fun _=>AV.wI DL.X3⟩
attribute [go_sem] HO HQ
theorem Wq{α:Type}{x:AV}{f:α->D}{v:α}:AV.le x (aD f v)=AV.le x (.d (f v)):=(rfl)
theorem JH{α:Type}{f:α->D}{xs:List α}{i:Nat}{v:α}(h:i<xs.length):List.map (aD f) (List.take i xs)++(AV.d (f v)::List.map (aD f) (List.drop (i+1) xs))=(xs.set i v).map (aD f):=by rw[bI,bJ];exact NZ h
theorem N1{α:Type}{f:α->D}{xs:List α}{i:Nat}{v:α}(h:i<xs.length):List.map (aD f) (List.take i xs)++[AV.d (f v)]++List.map (aD f) (List.drop (i+1) xs)=(xs.set i v).map (aD f):=by rw[aG];exact JH h
attribute [go_sem] Wq JH N1
theorem iE{p q:Prop}(hq:q)(h:p=q:=by first|((conv=>lhs;simp(maxSteps:=1000000) (disch:=omega)only[go_sem,kz,kr,lO,lM,bG,aV,bh,Nat.reduceAdd,Nat.reduceSub,Nat.reduceLeDiff,Nat.reduceEqDiff,Nat.reduceLT,Int.reduceToNat,reduceIte,reduceCtorEq])<;>rfl)|rfl):p:=h▸hq
theorem qz{c p q:Prop}(hc:c)(hq:q)(h:p=q:=by first|((conv=>lhs;simp(maxSteps:=1000000) (disch:=omega)only[go_sem,kz,kr,lO,lM,bG,aV,bh,Nat.reduceAdd,Nat.reduceSub,Nat.reduceLeDiff,Nat.reduceEqDiff,Nat.reduceLT,Int.reduceToNat,reduceIte,reduceCtorEq,hc])<;>rfl)|rfl):p:=h▸hq
theorem oG{p:Prop}(h:p:=by first|(simp only[go_sem,gS,aP,bI,bJ,aG,Nat.reduceAdd,Nat.reduceSub,Nat.reduceLeDiff,Nat.reduceEqDiff,Nat.reduceLT,reduceIte,reduceCtorEq];done)|((try simp only[go_sem,gS,aP,bI,bJ,aG,Nat.reduceAdd,Nat.reduceSub,Nat.reduceLeDiff,Nat.reduceEqDiff,Nat.reduceLT,reduceIte,reduceCtorEq];repeat' (first|exact AV.le_refl _|refine And.intro ?_ ?_|refine AV.xJ ?_|refine AV.uY ?_|refine AV.zc ?_|refine AV.wI (DL.agg ?_)|exact TH|exact By|refine TG ?_ ?_|refine yE ?_ ?_|exact TE|refine TD ?_ ?_|exact qX (AV.wI DL.nil) _|exact D.le_refl _|exact wD|exact qW|refine wC ?_|(simp only[go_sem,gS,aP,bI,bJ,aG,Nat.reduceAdd,Nat.reduceSub,Nat.reduceLeDiff,Nat.reduceEqDiff,Nat.reduceLT,reduceIte,reduceCtorEq];done)|refine pQ.append (pQ.refl _) ?_|refine AV.sO ?_|refine AV.CC ?_|omega));done)):p:=h
section
variable{P:Program}{k0 f:Nat}{args env:List AV}{s:gU}{d:Option Nat}{R:List AV->gU->Prop}{F:List (List Nat×List Nat)->List AV->gU->Prop}{ms:List iw}{acc:List (List Nat×List Nat)}{foot:List Nat}
end
theorem wk{k:Nat}{env env':List AV}{s s':gU}(h:iG env env':=by first|(simp only[go_sem,gS,aP,bI,bJ,aG,Nat.reduceAdd,Nat.reduceSub,Nat.reduceLeDiff,Nat.reduceEqDiff,Nat.reduceLT,reduceIte,reduceCtorEq];done)|((try simp only[go_sem,gS,aP,bI,bJ,aG,Nat.reduceAdd,Nat.reduceSub,Nat.reduceLeDiff,Nat.reduceEqDiff,Nat.reduceLT,reduceIte,reduceCtorEq];repeat' (first|exact AV.le_refl _|refine And.intro ?_ ?_|refine AV.xJ ?_|refine AV.uY ?_|refine AV.zc ?_|refine AV.wI (DL.agg ?_)|exact TH|exact By|refine TG ?_ ?_|refine yE ?_ ?_|exact TE|refine TD ?_ ?_|exact qX (AV.wI DL.nil) _|exact D.le_refl _|exact wD|exact qW|refine wC ?_|(simp only[go_sem,gS,aP,bI,bJ,aG,Nat.reduceAdd,Nat.reduceSub,Nat.reduceLeDiff,Nat.reduceEqDiff,Nat.reduceLT,reduceIte,reduceCtorEq];done)|refine pQ.append (pQ.refl _) ?_|refine AV.sO ?_|refine AV.CC ?_|omega));done))(hs:kj s s':=by first|(simp only[go_sem,gS,aP,bI,bJ,aG,Nat.reduceAdd,Nat.reduceSub,Nat.reduceLeDiff,Nat.reduceEqDiff,Nat.reduceLT,reduceIte,reduceCtorEq];done)|((try simp only[go_sem,gS,aP,bI,bJ,aG,Nat.reduceAdd,Nat.reduceSub,Nat.reduceLeDiff,Nat.reduceEqDiff,Nat.reduceLT,reduceIte,reduceCtorEq];repeat' (first|exact AV.le_refl _|refine And.intro ?_ ?_|refine AV.xJ ?_|refine AV.uY ?_|refine AV.zc ?_|refine AV.wI (DL.agg ?_)|exact TH|exact By|refine TG ?_ ?_|refine yE ?_ ?_|exact TE|refine TD ?_ ?_|exact qX (AV.wI DL.nil) _|exact D.le_refl _|exact wD|exact qW|refine wC ?_|(simp only[go_sem,gS,aP,bI,bJ,aG,Nat.reduceAdd,Nat.reduceSub,Nat.reduceLeDiff,Nat.reduceEqDiff,Nat.reduceLT,reduceIte,reduceCtorEq];done)|refine pQ.append (pQ.refl _) ?_|refine AV.sO ?_|refine AV.CC ?_|omega));done)):ij k env s env' s':=ij.U5 h hs
theorem iV.Zg{α:Type}{k:Nat}{x:AV}{s:gU}(id:Nat){t:Nat}(f:α->D)[zm f](xs:List α)(hid:k<=id)(ho:sat s id=.obj t (xs.map (aD f))):
 iV k x s (x.mT id (xs.map f)) (su id (xs.map f) s):=
 iV.mT id hid (.inl ⟨t,by rw[ho,HY],fun d h=>by obtain⟨x,_,rfl⟩:=bw.1 h;exact zm.one x⟩)
theorem Eu{p:Prop}(h:p:=by(try simp(disch:=first|omega|(simp only[aq,aQ,bQ,ff,aK,ey,Nat.reduceAdd]<;>fail)|fail)only[zf,AV.jW,AV.iz,si,ic,Ey,Ev,AF,Cp,zJ,FR,AD,Cm,AB,ML,Co,Ew,Hx,Hy,Ex,Cn]);first|(simp only[go_sem,gS,aP,bI,bJ,aG,Nat.reduceAdd,Nat.reduceSub,Nat.reduceLeDiff,Nat.reduceEqDiff,Nat.reduceLT,reduceIte,reduceCtorEq];done)|((try simp only[go_sem,gS,aP,bI,bJ,aG,Nat.reduceAdd,Nat.reduceSub,Nat.reduceLeDiff,Nat.reduceEqDiff,Nat.reduceLT,reduceIte,reduceCtorEq];repeat' (first|exact AV.le_refl _|refine And.intro ?_ ?_|refine AV.xJ ?_|refine AV.uY ?_|refine AV.zc ?_|refine AV.wI (DL.agg ?_)|exact TH|exact By|refine TG ?_ ?_|refine yE ?_ ?_|exact TE|refine TD ?_ ?_|exact qX (AV.wI DL.nil) _|exact D.le_refl _|exact wD|exact qW|refine wC ?_|(simp only[go_sem,gS,aP,bI,bJ,aG,Nat.reduceAdd,Nat.reduceSub,Nat.reduceLeDiff,Nat.reduceEqDiff,Nat.reduceLT,reduceIte,reduceCtorEq];done)|refine pQ.append (pQ.refl _) ?_|refine AV.sO ?_|refine AV.CC ?_|omega));done)):p:=h
theorem ZV{p q:Prop}(hq:q)(h:p=q:=by first|((conv=>lhs;simp(disch:=first|omega|(simp only[aq,aQ,bQ,ff,aK,ey,Nat.reduceAdd]<;>fail)|fail)only[Ey,Ev,AF,Cp,zJ,FR,AD,Cm,AB,ML,Co,Ew,Hx,Hy,Ex,Cn])<;>rfl)|rfl):p:=h▸hq
section
variable{α:Type}{f:α->D}{e:Nat}
theorem iV.fz[sU f e]{k0 t n:Nat}{x:AV}{s:gU}{ds:List D}(id:Nat)(f':α->D)(hf:f'=f)(xs:List α)(ho:sat s id=.kO t e n ds:=by exact rfl)(hid:k0<=id:=by omega)(hn:n=xs.length:=by simp)
 (hs:ds=lq f xs:=by first|rfl|simp only[go_sem,gS,aP,bI,bJ,aG,Nat.reduceAdd,Nat.reduceSub,Nat.reduceLeDiff,Nat.reduceEqDiff,Nat.reduceLT,reduceIte,reduceCtorEq]):iV k0 x s (x.mT id (xs.map f')) (su id (xs.map f') s):=iV.Zh id f' hf xs hid ho hn hs
theorem ij.fz[sU f e]{k0 t n:Nat}{env:List AV}{s:gU}{ds:List D}(id:Nat)(f':α->D)(hf:f'=f)(xs:List α)(ho:sat s id=.kO t e n ds:=by exact rfl)(hid:k0<=id:=by omega)(hn:n=xs.length:=by simp)
 (hs:ds=lq f xs:=by first|rfl|simp only[go_sem,gS,aP,bI,bJ,aG,Nat.reduceAdd,Nat.reduceSub,Nat.reduceLeDiff,Nat.reduceEqDiff,Nat.reduceLT,reduceIte,reduceCtorEq]):ij k0 env s (AV.oV id (xs.map f') env) (su id (xs.map f') s):=ij.PW id f' hf xs hid ho hn hs
end
def Iter(P:Program)(gf:Nat)(caps:List AV)(els:List (List D)):Prop:=
 AV.iz (fun _=>none) caps=caps/\(∀args w,(callFunc gf args).run P w=.ok (.enter gf args) w)/\
 ∀(O:Own)(W:World)(lb:Array Value),AV.ir (fun _=>.no) O W caps lb.toList->GW O W->(∀b o,O b o->b<W.heap.size)->
  ∀(l:Nat)(J Jx:Nat->Own->World->Prop),
   (∀i X A B row,J i X A->A.grownBy B row->(∀r,row=some r->W.heap.size<=r/\∃o:Obj,A.heap[r]?=some o/\Ai o)->J i X B)->
   (∀i X A B row,Jx i X A->A.grownBy B row->(∀r,row=some r->W.heap.size<=r/\∃o:Obj,A.heap[r]?=some o/\Ai o)->Jx i X B)->
   (∀i X W1 (vs:Array Value),i<els.length->J i X W1->AV.ir (fun _=>.no) X W1 ((els.getD i []).map .d) vs.toList->YieldAt Fence.wide 0 P l vs W1 fun e W'=>∃X',
    ((e=.returned (.bool true)/\J (i+1) X' W')\/(e=.returned (.bool false)/\Jx (i+1) X' W'))/\(∀b o,X' b o->b<W'.heap.size)/\
    ∀b o v,W1.cell? ⟨b,o,none⟩=some v->¬X b o->W'.cell? ⟨b,o,none⟩=some v/\¬X' b o)->
   J 0 O W->
   CallsIn Fence.wide 0 P gf (#[.func (.yield l) #[] #[]]++lb) W fun e W'=>(∃v,e=.returned v)/\((∃X,J els.length X W')\/∃m X,m<els.length/\Jx (m+1) X W')
def uz(K:Nat):Nat->Option Nat:=fun i=>if i<K then some i else none
theorem EK{β β':gZ}{O:Own}{w:World}:∀{xs:List D}{vs:List Value},AV.ir β O w (xs.map .d) vs->AV.ir β' O w (xs.map .d) vs
 |[],vs=>fun h=>by simpa[AV.ir]using h
 |x::xs,vs=>fun h=>by
  simp only[aN,AV.ir,AV.ok]at h⊢;obtain⟨v,r,h1,h2,h3⟩:=h;exact⟨v,r,h1,h2,EK h3⟩
theorem Inv.stays{C:Ctx}{β:gZ}{s:gU}{w:World}(h:Inv C β s w):∀b o v,C.w.cell? ⟨b,o,none⟩=some v->¬C.gX C.β C.s b o->w.cell? ⟨b,o,none⟩=some v/\¬C.gX β s b o:=by
 intro b o v hc hn;refine⟨h.keep b o v hc fun h2=>hn (.inr h2),fun h2=>?_⟩;rcases h2 with h2|h2
 ·exact hn (.inl h2)
 ·rcases h.n_ b o h2 with h3|h3
  ·exact hn (.inr h3)
  ·have:=jZ hc;omega
def qY(C:Ctx)(β:gZ)(env:List AV)(s:gU)(a:Act)(w:World):Prop:=∀i x,env[i]?=some x->AV.ok β (C.gX β s) w x (a.tmps.getD i undef)
theorem qY.later{C:Ctx}{β:gZ}{env:List AV}{s:gU}{a:Act}{w:World}(hfix:AV.iz (uz C.k) env=env)(h:Inv C β s w)(he:qY C C.β env C.s a C.w):qY C β env s a w:=by
 intro i x hx;have h1:AV.ok (fun id=>if id<C.k then C.β id else .no) (C.gX C.β C.s) C.w (x.jW (uz C.k)) (a.tmps.getD i undef):=
  AV.sP (fun i j hij=>by
   unfold uz at hij;split at hij
   ·rename_i hlt;cases hij;simp[hlt]
   ·cases hij) x _ (he i x hx)
 have h2:x.jW (uz C.k)=x:=by
  have h3:(AV.iz (uz C.k) env)[i]?=(env[i]?).map (AV.jW (uz C.k)):=pE _ _ _;rw[hfix,hx]at h3;simpa using h3.symm
 rw[h2]at h1;refine AV.iN h.stays (fun id=>?_) _ _ h1;by_cases hlt:id<C.k
 ·simp only[hlt,aB];exact h.pl id hlt
 ·simp only[hlt,aF];trivial
theorem qY.oM{C:Ctx}{β:gZ}{env:List AV}{s:gU}{a:Act}{w w':World}{row:Option Nat}(h:qY C β env s a w)(hg:w.grownBy w' row)
 (hr:∀r,row=some r->∃o:Obj,w.heap[r]?=some o/\Ai o):qY C β env s a w':=
 fun i x hx=>AV.iN (fun _ _ _ hc hn=>⟨eG hc hg (Bw hr),hn⟩) (fun _=>.refl _) _ _ (h i x hx)
theorem Marks.now{C:Ctx}{β:gZ}{s:gU}{w:World}{ds:List Deferred}(h:Marks C ds)(hi:Inv C β s w):
 ∃Ds:List Nat,ds=Ds.map xL/\Ds.Nodup/\∀D∈Ds,C.dom<=D/\D<C.w.heap.size/\w.heap[D]?=some (.deferred (some [])):=
 let⟨_,Ds,h1,h2,h3⟩:=h
 ⟨Ds,h1,h2,fun D hD=>let⟨h4,h5,h6,h7⟩:=h3 D hD;⟨h4,h5,(hi.oE D h5 h7).trans h6⟩⟩
theorem Marks.mk'{C C1:Ctx}{β:gZ}{s:gU}{w:World}(hi:Inv C β s w)(hnm:C1.nm=false)(h1:C1.β=β)(h2:C1.s=s)(h3:C1.w=w){Ds:List Nat}(hn:Ds.Nodup)
 (hD:∀D∈Ds,C1.dom<=D/\w.heap[D]?=some (.deferred (some []))):Marks C1 (Ds.map xL):=
 ⟨(fun h=>by rw[hnm]at h;cases h),Ds,rfl,hn,fun D hd=>let⟨h4,h5⟩:=hD D hd;⟨h4,by rw[h3];exact(aO.1 h5).1,by rw[h3];exact h5,fun id hb=>by
  rw[h1,h2]at hb;exact hi.isCells hb h5 ⟨rfl,rfl⟩⟩⟩
theorem St.XL{C:Ctx}{β:gZ}{s:gU}{w:World}:∀{ps:List Nat}{xs:List D}{vs:List Value}{env:List AV}{a:Act},St C β env s a w->AV.ir β (C.gX β s) w (xs.map .d) vs->
 St C β (nX env (ps.zip (xs.map .d))) s {a with tmps:=(ps.zip vs).foldl (fun t (p,v)=>t.setIfInBounds p v) a.tmps} w
 |[],xs,vs,env,a=>fun h _=>by simpa[nX]using h
 |p::ps,[],vs,env,a=>fun h hv=>by
  simp only[dy,AV.ir]at hv;subst hv;simpa[nX]using h
 |p::ps,x::xs,vs,env,a=>fun h hv=>by
  simp only[aN,AV.ir]at hv;obtain⟨v,r,rfl,h1,h2⟩:=hv;have:=St.XL (ps:=ps) (a:=a.put (some p) v) (h.put h1 (some p)) h2;simpa[nX,Act.put]using this
section
variable{P:Program}{k:Nat}{Q:Post}{env:List AV}{s:gU}
def Dw{ι:Type}(K:Nat)(env:List AV)(S:ι->gU)(next:ι->Prop)(Q:Post):Post
 |.normal,env',s'=>∃i',next i'/\∃env'',ij K env' s' env'' (S i')
 |.ret,env',s'=>∃s'',(∃env'',ij K env' s' env'' s'')/\Q .ret env s''
 |.exit id,env',s'=>∃s'',(∃env'',ij K env' s' env'' s'')/\Q (.exit id) env s''
 |_,_,_=>False
theorem Wz{g:Operand}{ps:List Nat}{x y:gV}{gf:Nat}{caps:List AV}{els:List (List D)}{ι:Type}(K:Nat)(hK:k<=K)(hfix:AV.iz (uz K) env=env)
 (hflat:x.flat=true/\y.flat=true) (hg:ev env g=.fn gf [] caps) (it:Iter P gf caps els) (hps:∀i,i<els.length->(els.getD i []).length=ps.length)
 (S:ι->gU) (pos:ι->Nat) (inv:ι->Prop) (i0:ι) (h0:inv i0) (hp0:pos i0=0) (hw:ij k env s env (S i0))
 (round:∀i,inv i->pos i<els.length->ng P K x (wj (fun env1 s1=>ng P K y (Dw K env S (fun i'=>inv i'/\pos i'=pos i+1) Q) env1 s1) fun _ _ _=>False)
  (nX env (ps.zip ((els.getD (pos i) []).map .d))) (S i))
 (done:∀i,inv i->pos i=els.length->Q .normal env (S i)):ng P k (.Dv g ps x y) Q env s:=fun C hC hf c hc β a w hst=>by
 have hpl:C.plain:=by
  rcases hf with h|h
  ·simp[gV.flat]at h
  ·exact h
 obtain⟨hro,hnm,hdom⟩:=hpl;obtain⟨ps',ca,cb,rfl,hps',hx,hy⟩:=Nm hc;obtain⟨β0,hst0⟩:=hw C β a w hC hst;have hF:C.nP=Fence.wide:=by unfold Ctx.nP;rw[hro];rfl
 have hgv:=hst0.ev g;rw[hg]at hgv;simp only[AV.ok,AV.ir]at hgv;obtain⟨fs,lb,hgv,hfs,hlb⟩:=hgv;have hfs:fs=#[]:=cP (by simpa using hfs);subst hfs;obtain⟨hids,henter,hit⟩:=it;have hbnd:∀{β:gZ}{s:gU}{w:World},Inv C β s w->∀b o,C.gX β s b o->b<w.heap.size:=fun h b o hb=>by
  rcases hb with hb|hb
  ·exact cp (h.low b o hb).1 h.size
  ·exact h.CK hb
 let Cw:Ctx:={C with β:=β0,s:=S i0,w:=w,k:=C.k};have hCw:∀{β s w'},Inv Cw β s w'->Inv C β s w':=fun h=>hst0.inv.back h (aC _)
 have hforb:∀(C':Ctx) β s,C'.O=C.O->C'.gX β s=C.gX β s:=fun C' β s h=>by unfold Ctx.gX;rw[h]
 refine wpIn_rangeFunc fun fn hfn=>?_
 have hfr:C.nP.round=none:=hro;rw[hfr];obtain⟨rec,hrec⟩:∃rec:LoopState->Option Code->Loop,rec=fun st pe=>{state:=st,pending:=pe,fn,tmps:=a.tmps,params:=ps',assign:=ca,body:=cb,defers:=w.heap.size}:=⟨_,rfl⟩
 obtain⟨W1,hW1⟩:∃W1,(w.alloc (.deferred (some []))).alloc (.loop (rec .ready none))=W1:=⟨_,rfl⟩;have hg1:w.grownBy W1 none:=by
  rw[<-hW1];exact⟨rfl,rfl,rfl,by simp;omega,fun j hj _=>(bf _ _ _ (by simp;omega)).trans (bf w _ j hj)⟩
 have hL1:W1.heap[w.heap.size+1]?=some (.loop (rec .ready none)):=by rw[<-hW1];have:=dr (w.alloc (.deferred (some []))) (.loop (rec .ready none));rwa [World.size_alloc]at this
 have hK1:W1.heap[w.heap.size]?=some (.deferred (some [])):=by rw[<-hW1];exact(bf _ _ _ (by simp)).trans (dr w _)
 have hcall:=hit (C.gX β0 (S i0)) W1 lb (by
  have:=AV.tW (β':=fun _=>.no) (ρ:=fun _=>none) (fun i j h=>by cases h) _ _ hlb;rw[hids]at this;exact AV.iZ (fun b o v hc hn=>⟨by rw[bU (hg1.block b (jZ hc) (by simp))];exact hc,hn⟩) (fun _=>.refl _) _ _ this)
  (hst0.inv.HA.mono fun b o v hc hn=>⟨by rw[bU (hg1.block b (jZ hc) (by simp))];exact hc,hn⟩)
  (fun b o h=>cp (hbnd hst0.inv b o h) hg1.size)
 let Jn:Nat->Own->World->Prop:=fun n X W=>(∃j,inv j/\pos j=n/\∃β',X=C.gX β' (S j)/\Inv Cw β' (S j) W/\qY C β' env (S j) a W/\∀b o v,W1.cell? ⟨b,o,none⟩=some v->¬C.gX β0 (S i0) b o->W.cell? ⟨b,o,none⟩=some v/\¬X b o)/\
  W.heap[w.heap.size+1]?=some (.loop (rec .ready none))/\W.heap[w.heap.size]?=some (.deferred (some []))
 let Jx:Nat->Own->World->Prop:=fun _ _ W=>∃jump s'' β',((jump=.ret/\Q .ret env s'')\/∃id,jump=.exit id/\Q (.exit id) env s'')/\Inv Cw β' s'' W/\qY C β' env s'' a W/\
  W.heap[w.heap.size+1]?=some (.loop (rec .done (some jump)))/\W.heap[w.heap.size]?=some (.deferred (some []))
 have hsz1:W1.heap.size=w.heap.size+2:=by rw[<-hW1];simp
 have gK:∀{A B:World}{row:Option Nat}{i:Nat}{o:Obj},A.grownBy B row->(∀r,row=some r->W1.heap.size<=r)->i<w.heap.size+2->A.heap[i]?=some o->B.heap[i]?=some o:=
  fun hg hr hi h=>(hg.block _ (aO.1 h).1 (fun e=>by have:=hr _ e.symm;omega)).trans h
 have hJn:∀i X A B row,Jn i X A->A.grownBy B row->(∀r,row=some r->W1.heap.size<=r/\∃o:Obj,A.heap[r]?=some o/\Ai o)->Jn i X B:=fun i X A B row ⟨⟨j,h1,h2,β',h0,h3,h4,h7⟩,h5,h6⟩ hg hr=>
  ⟨⟨j,h1,h2,β',h0,h3.oM hg (fun r e=>⟨by have:=(hr r e).1;show w.heap.size<=r;omega,(hr r e).2⟩),h4.oM hg (fun r e=>(hr r e).2),fun b o v k1 k2=>⟨eG (h7 b o v k1 k2).1 hg (Bw fun r e=>(hr r e).2),(h7 b o v k1 k2).2⟩⟩,
   gK hg (fun r e=>(hr r e).1) gN h5,gK hg (fun r e=>(hr r e).1) gN h6⟩
 have hJx:∀i X A B row,Jx i X A->A.grownBy B row->(∀r,row=some r->W1.heap.size<=r/\∃o:Obj,A.heap[r]?=some o/\Ai o)->Jx i X B:=fun i X A B row ⟨jump,s'',β',h1,h3,h4,h5,h6⟩ hg hr=>
  ⟨jump,s'',β',h1,h3.oM hg (fun r e=>⟨by have:=(hr r e).1;show w.heap.size<=r;omega,(hr r e).2⟩),h4.oM hg (fun r e=>(hr r e).2),gK hg (fun r e=>(hr r e).1) gN h5,gK hg (fun r e=>(hr r e).1) gN h6⟩
 have own2:∀{A:World}{i:Nat}{o:Obj}(o':Obj),w.heap.size<=i->A.heap[i]?=some o->Ai o->∀r,some i=some r->Cw.w.heap.size<=r/\∃o:Obj,A.heap[r]?=some o/\Ai o:=
  fun{A i o} _ h1 h2 h3 r e=>by cases e;exact⟨h1,o,h2,h3⟩
 refine⟨w.heap.size+1,[xL w.heap.size],W1,{target:=.fn (.func gf) lb,args:=#[.func (.yield (w.heap.size+1)) #[] #[]]},W1,gf,
  #[.func (.yield (w.heap.size+1)) #[] #[]]++lb,W1,?_,?_,?_,?_,fun h=>by simp[Ctx.nP]at h,?_⟩
 ·rw[<-hW1,hrec];exact run_enterLoop_outer _ _ _ _ _
 ·simp only[resolve,hgv];simp[go_sem]
 ·exact fun _ _=>trivial
 ·simp[invoke,go_sem,henter]
 ·rw[hF];refine(hcall (w.heap.size+1) Jn Jx hJn hJx ?_
   ⟨⟨i0,h0,hp0,β0,rfl,(hst0.inv.here).oM hg1 (fun r e=>by cases e),qY.oM (fun i x hx=>hst0.env i x hx) hg1 (fun r e=>by cases e),fun b o v k1 k2=>⟨k1,k2⟩⟩,hL1,hK1⟩).mono ?_
  ·-- a round
   rintro i X W ev hi ⟨⟨j,hj,hpj,β1,rfl,hinv,henv,hkp⟩,hl,hk⟩ hevs;have hyv:=run_yield (P:=P) (args:=ev) hl (by
    have h1:=AV.iC hevs;have h2:=hps i hi;rw[hrec];show ev.size=ps'.size;rw[aK,h2,<-hps']at h1;simpa using h1)
   rw[hrec]at hyv;refine⟨fn,_,ca,cb,hyv,roundIn_of_wpIn trivial ?_⟩;let C2:Ctx:={C with β:=β1,s:=S j,w:=W,k:=K,ro:=some (w.heap.size+1),dom:=0,nm:=false};have hinvC:Inv C β1 (S j) W:=hCw hinv;have hinv2:Inv C2 β1 (S j) W:=(hinvC.here (K:=K)).ro _ _;have hst2:St C2 β1 env (S j) {tmps:=a.tmps,defers:=[]} W:=⟨.nil,hinv2,hst0.len,henv⟩;have henc:AV.ir β1 (C2.gX β1 (S j)) W (((els.getD i []).map .d)) ev.toList:=by
    refine EK (β:=fun _=>.no) ?_;rw[hforb C2 β1 (S j) rfl];exact hevs
   have hst3:=St.XL (ps:=ps) hst2 henc;have hi':=hpj▸hi;have hrnd:=round j hj hi';rw[hpj]at hrnd;have hass:=hrnd C2 rfl (.inl hflat.1) ca hx β1 _ W hst3;have hfold:(ps.zip ev.toList).foldl (fun t (p,v)=>t.setIfInBounds p v) a.tmps=(ps'.zip ev).foldl (fun t (p,v)=>t.setIfInBounds p v) a.tmps:=by rw[<-hps',<-Array.foldl_toList,Array.toList_zip]
   show ca.wpIn C2.nP 0 P _ {tmps:=(ps'.zip ev).foldl (fun t (p,v)=>t.setIfInBounds p v) a.tmps,defers:=[]} W;rw[<-hfold];refine dJ hass fun e a3 W3 he=>?_
   obtain⟨C3,hx3,β3,env3,s3,hst3',hq⟩:=he;cases e with
   |normal=>
    have hq:ng P K y (Dw K env S (fun i'=>inv i'/\pos i'=pos j+1) Q) env3 s3:=by rw[hpj];exact hq
    have hI2:Inv C2 β3 s3 W3:=hx3.inv _ _ _ hst3'.inv;have keep3:∀{i:Nat}{o:Obj},W.heap[i]?=some o->Ai o->W3.heap[i]?=some o:=fun{i o} h h'=>
     (hI2.oE i (aO.1 h).1 fun id hb=>hinvC.isCells hb h h').trans h
    have hl3:=keep3 hl ⟨rfl,rfl⟩;have hk3:=keep3 hk ⟨rfl,rfl⟩;have hIw3:Inv Cw β3 s3 W3:=hinv.back (K:=K) (hI2.XT (C:={Cw with β:=β1,s:=S j,w:=W,k:=K})) (by show C.k<=K;omega);refine⟨_,run_beginRound hl3 (by rw[hrec]),?_⟩;have hg4:=eO W3 (w.heap.size+1) (.loop {rec .ready none with state:=.busy});have hr4:=own2 (A:=W3) (.loop {rec .ready none with state:=.busy}) (fY _) hl3 ⟨rfl,rfl⟩;generalize hW4:W3.putObj (w.heap.size+1) (.loop {rec .ready none with state:=.busy})=W4 at hg4⊢;have hl4:W4.heap[w.heap.size+1]?=some (.loop {rec .ready none with state:=.busy}):=by rw[<-hW4];exact World.putObj_heap_same (aO.1 hl3).1
    have hk4:W4.heap[w.heap.size]?=some (.deferred (some [])):=by rw[<-hW4];exact(dx gN).trans hk3
    have hIw4:Inv Cw β3 s3 W4:=hIw3.oM hg4 hr4;let C4:Ctx:={C with β:=β3,s:=s3,w:=W4,k:=K,ro:=some (w.heap.size+1),dom:=0,nm:=false};have hI4:Inv C4 β3 s3 W4:=((hCw hIw4).here (K:=K)).ro _ _;have hmk4:Marks C4 a3.defers:=by
     obtain⟨Ds,h1,h2,h3⟩:=hst3'.defers.now hst3'.inv;rw[h1];refine Marks.mk' hIw4 rfl rfl rfl rfl h2 fun D hD=>⟨cQ _,?_⟩
     have h4:=(h3 D hD).2.2;rw[<-hW4];refine(dx fun e=>?_).trans h4;rw[e,hl3]at h4;cases h4
    have hst4:St C4 β3 env3 s3 a3 W4:=⟨hmk4,hI4,hst3'.len,fun t x hx=>by
     have h1:=hst3'.env t x hx;rw[hx3.gX]at h1;exact AV.iN (fun b o v hc hn=>⟨eG hc hg4 (Bw fun r e=>(hr4 r e).2),hn⟩) (fun _=>.refl _) _ _ h1⟩
    have henv3:qY C2 β3 env s3 a W3:=qY.later (C:=C2) hfix hI2 henv;have henv4:qY C β3 env s3 a W4:=qY.oM (C:=C) henv3 hg4 fun r e=>(hr4 r e).2
    have hbody:=hq C4 rfl (.inl hflat.2) cb hy β3 _ W4 hst4;refine dJ hbody fun e a5 W5 he=>?_
    obtain⟨C5,hx5,β5,env5,s5,hst5,hq5⟩:=he;have fin:∀(jump:Option Code)(β6:gZ)(s6:gU),Inv C4 β6 s6 W5->∃W6,(Instr.endRound (w.heap.size+1) jump).run P W5=.ok (.bool jump.isNone) W6/\
     W6.heap[w.heap.size+1]?=some (.loop (rec (if jump.isNone then .ready else .done) jump))/\W6.heap[w.heap.size]?=some (.deferred (some []))/\Inv Cw β6 s6 W6/\qY C β6 env s6 a W6/\
     (∀b o,C.gX β6 s6 b o->b<W6.heap.size)/\∀b o v,W.cell? ⟨b,o,none⟩=some v->¬C.gX β1 (S j) b o->W6.cell? ⟨b,o,none⟩=some v/\¬C.gX β6 s6 b o:=fun jump β6 s6 hI6=>by
     have keep5:∀{i:Nat}{o:Obj},W4.heap[i]?=some o->Ai o->W5.heap[i]?=some o:=fun{i o} h h'=>
      (hI6.oE i (aO.1 h).1 fun id hb=>hIw4.isCells hb h h').trans h
     have hl5:=keep5 hl4 ⟨rfl,rfl⟩;have hk5:=keep5 hk4 ⟨rfl,rfl⟩;have hrun:=run_endRound (P:=P) jump hl5;have hg6:=eO W5 (w.heap.size+1) (.loop (rec (if jump.isNone then .ready else .done) jump));have hr6:=own2 (A:=W5) (.loop (rec (if jump.isNone then .ready else .done) jump)) (fY _) hl5 ⟨rfl,rfl⟩;have hIw5:Inv Cw β6 s6 W5:=hIw4.back (K:=K) (hI6.XT (C:={Cw with β:=β3,s:=s3,w:=W4,k:=K})) (by show C.k<=K;omega);refine⟨_,by rw[hrec]at hrun⊢;exact hrun,World.putObj_heap_same (aO.1 hl5).1,(dx gN).trans hk5,hIw5.oM hg6 hr6,?_,hbnd (hCw (hIw5.oM hg6 hr6)),?_⟩
     ·have h5:qY C4 β6 env s6 a W5:=qY.later (C:=C4) hfix hI6 henv4;exact qY.oM (C:=C) h5 hg6 fun r e=>(hr6 r e).2
     ·intro b o v h3 k1;have k2:=hI2.stays b o v h3 k1;have k3:W4.cell? ⟨b,o,none⟩=some v:=eG k2.1 hg4 (Bw fun r e=>(hr4 r e).2);have k4:=hI6.stays b o v k3 k2.2;exact⟨eG k4.1 hg6 (Bw fun r e=>(hr6 r e).2),k4.2⟩
    have hk5:C5.k=K:=hx5.k;cases e with
    |normal=>
     obtain⟨j',⟨hj',hpj'⟩,_,hwk⟩:=hq5;obtain⟨β6,hst6⟩:=hwk C5 β5 a5 W5 hk5 hst5;obtain⟨W6,hr,h1,h2,h3,h4,h6,h5⟩:=fin none β6 (S j') (hx5.inv _ _ _ hst6.inv);exact⟨_,_,hr,_,.inl ⟨rfl,⟨⟨j',hj',by rw[hpj',hpj],β6,rfl,h3,h4,fun b o v k1 k2=>h5 b o v (hkp b o v k1 k2).1 (hkp b o v k1 k2).2⟩,h1,h2⟩⟩,h6,h5⟩
    |ret=>
     obtain⟨s'',⟨_,hwk⟩,hQ⟩:=hq5;obtain⟨β6,hst6⟩:=hwk C5 β5 a5 W5 hk5 hst5;obtain⟨W6,hr,h1,h2,h3,h4,h6,h5⟩:=fin (some .ret) β6 s'' (hx5.inv _ _ _ hst6.inv);exact⟨_,_,hr,_,.inr ⟨rfl,.ret,s'',β6,.inl ⟨rfl,hQ⟩,h3,h4,h1,h2⟩,h6,h5⟩
    |exit id=>
     obtain⟨s'',⟨_,hwk⟩,hQ⟩:=hq5;obtain⟨β6,hst6⟩:=hwk C5 β5 a5 W5 hk5 hst5;obtain⟨W6,hr,h1,h2,h3,h4,h6,h5⟩:=fin (some (.exit id)) β6 s'' (hx5.inv _ _ _ hst6.inv);exact⟨_,_,hr,_,.inr ⟨rfl,.exit id,s'',β6,.inr ⟨id,rfl,hQ⟩,h3,h4,h1,h2⟩,h6,h5⟩
    |goto l=>exact hq5.elim
    |panic ch=>exact hq5.elim
    |outgrown=>exact hq5.elim
   |exit id=>exact hq.elim
   |goto l=>exact hq.elim
   |ret=>exact hq.elim
   |panic ch=>exact hq.elim
   |outgrown=>exact hq.elim
  ·-- behind the iterator
   have out:∀(β':gZ)(s':gU)(W2:World)(st:LoopState)(pe:Option Code),st≠ .busy->Inv Cw β' s' W2->qY C β' env s' a W2->W2.heap[w.heap.size+1]?=some (.loop (rec st pe))->W2.heap[w.heap.size]?=some (.deferred (some []))->
    ∃W3,(Instr.endLoop (w.heap.size+1)).run P W2=.ok pe W3/\∃C',Ext C C'/\St C' β' env s' {a with defers:=[xL w.heap.size]++a.defers} W3:=fun β' s' W2 st pe hst hI hE hl hk=>by
    have hrun:=run_endLoop (P:=P) hl (by rw[hrec];exact hst);have hg3:=eO W2 (w.heap.size+1) (.loop {rec st pe with state:=.exhausted});have hr3:=own2 (A:=W2) (.loop {rec st pe with state:=.exhausted}) (fY _) hl ⟨rfl,rfl⟩;have hI3:Inv Cw β' s' (W2.putObj (w.heap.size+1) (.loop {rec st pe with state:=.exhausted})):=hI.oM hg3 hr3;have hE3:qY C β' env s' a (W2.putObj (w.heap.size+1) (.loop {rec st pe with state:=.exhausted})):=qY.oM (C:=C) hE hg3 fun r e=>(hr3 r e).2
    have hk3:(W2.putObj (w.heap.size+1) (.loop {rec st pe with state:=.exhausted})).heap[w.heap.size]?=some (.deferred (some [])):=(dx gN).trans hk;have hpe:(rec st pe).pending=pe:=by rw[hrec]
    generalize W2.putObj (w.heap.size+1) (.loop {rec st pe with state:=.exhausted})=W3 at hrun hI3 hE3 hk3;rw[hpe]at hrun;refine⟨W3,hrun,?_⟩;have hIC:Inv C β' s' W3:=hCw hI3;refine⟨{C with β:=β',s:=s',w:=W3,k:=C.k},⟨hIC.size,rfl,rfl,rfl,rfl,rfl,fun β s w h=>hIC.back h (aC _)⟩,?_,hIC.here,hst0.len,hE3⟩;obtain⟨Ds,h1,h2,h3⟩:=hst0.defers.now hIC;have hsz:=hst0.inv.size;show Marks _ (xL w.heap.size::a.defers);rw[h1,<-aN];refine Marks.mk' (C1:={C with β:=β',s:=s',w:=W3,k:=C.k}) hIC hnm rfl rfl rfl (cu.2 ⟨fun hm=>?_,h2⟩) fun D hD=>?_
    ·have:=(h3 _ hm).2.1;omega
    ·rcases bL.1 hD with rfl|hD
     ·exact⟨by show C.dom<=w.heap.size;omega,hk3⟩
     ·exact⟨(h3 D hD).1,(h3 D hD).2.2⟩
   rintro e W2 ⟨⟨v,rfl⟩,(⟨X,⟨j,hj,hpj,β',_,hI,hE,_⟩,hl,hk⟩|⟨m,X,_,jump,s'',β',hQ,hI,hE,hl,hk⟩)⟩
   ·obtain⟨W3,hr,C',hxt,hst'⟩:=out β' (S j) W2 .ready none (by simp) hI hE hl hk;exact⟨none,W3,hr,C',hxt,β',env,S j,hst',done j hj hpj⟩
   ·obtain⟨W3,hr,C',hxt,hst'⟩:=out β' s'' W2 .done (some jump) (by simp) hI hE hl hk;refine⟨some jump,W3,hr,?_⟩;rcases hQ with⟨rfl,hQ⟩|⟨id,rfl,hQ⟩
    ·exact wpIn_ret ⟨C',hxt,β',env,s'',hst',hQ⟩
    ·exact wpIn_exit ⟨C',hxt,β',env,s'',hst',hQ⟩
theorem HX{σ β:Type}{f:Nat×σ->Option ((Nat×σ)⊕β)}{s0:σ}{b:β}(hb:g_ f (0,s0)=some b){g:Operand}{ps:List Nat}{x y:gV}{gf:Nat}{caps:List AV}{els:List (List D)}(K:Nat)
 (hK:k<=K) (hfix:AV.iz (uz K) env=env) (hflat:x.flat=true/\y.flat=true) (hg:ev env g=.fn gf [] caps) (it:Iter P gf caps els) (hps:∀i,i<els.length->(els.getD i []).length=ps.length)
 (S:σ->gU) (hw:ij k env s env (S s0))
 (round:∀j p t,j<els.length->f (j,p)=some t->(∀b',t=.inr b'->b'=b)->
  ng P K x (wj (fun env1 s1=>ng P K y (Dw K env S (fun p'=>t=.inl (j+1,p')) Q) env1 s1) fun _ _ _=>False) (nX env (ps.zip ((els.getD j []).map .d))) (S p))
 (done:∀p t,f (els.length,p)=some t->(∀b',t=.inr b'->b'=b)->Q .normal env (S p)):ng P k (.Dv g ps x y) Q env s:=by
 obtain⟨n,hn⟩:=qd hb;refine Wz (ι:=Nat×Nat×σ) K hK hfix hflat hg it hps (fun p=>S p.2.2) (fun p=>p.2.1) (fun p=>sC f p.1 p.2 b/\p.2.1<=els.length) (n,0,s0) ⟨hn,cQ _⟩ rfl hw ?_ ?_
 ·rintro⟨m,j,p⟩ ⟨hm,_⟩ hj;cases m with
  |zero=>exact hm.elim
  |succ m=>
   have cv:∀t:(Nat×σ)⊕β,(∀p',t=.inl (j+1,p')->sC f m (j+1,p') b)->∀e env' s',Dw K env S (fun p'=>t=.inl (j+1,p')) Q e env' s'->
    Dw K env (fun p:Nat×Nat×σ=>S p.2.2) (fun i'=>(sC f i'.1 i'.2 b/\i'.2.1<=els.length)/\i'.2.1=j+1) Q e env' s':=fun t ht e env' s' hq=>by
    cases e with
    |normal=>obtain⟨p',hp,hw⟩:=hq;exact⟨(m,j+1,p'),⟨⟨ht p' hp,hj⟩,rfl⟩,hw⟩
    |_=>exact hq
   rcases hm with hm|⟨p',hm,hr⟩
   ·refine(round j p _ hj hm fun b' hb'=>by cases hb';rfl).mono fun e env' s' hq=>?_
    cases e with
    |normal=>exact ng.mono hq (cv _ fun p' hp=>by cases hp)
    |_=>exact hq
   ·refine(round j p _ hj hm fun b' hb'=>by cases hb').mono fun e env' s' hq=>?_
    cases e with
    |normal=>exact ng.mono hq (cv _ fun p'' hp=>by cases hp;exact hr)
    |_=>exact hq
 ·rintro⟨m,j,p⟩ ⟨hm,_⟩ hj;simp only at hj;subst hj;cases m with
  |zero=>exact hm.elim
  |succ m=>
   rcases hm with hm|⟨p',hm,hr⟩
   ·exact done p _ hm fun b' hb'=>by cases hb';rfl
   ·exact done p _ hm fun b' hb'=>by cases hb'
def xm{α:Type}[Inhabited α](enc:α->D)(xs:List α):List (List D):=
 (List.range xs.length).map fun(j:Nat)=>[iD ((xs.length:Int)-1-(j:Int)),enc (xs.getD (xs.length-1-j) default)]
theorem vI{α:Type}[Inhabited α]{enc:α->D}{xs:List α}:(xm enc xs).length=xs.length:=by simp[xm]
theorem Aw{α:Type}[Inhabited α]{enc:α->D}{xs:List α}{j:Nat}(h:j<xs.length):(xm enc xs).getD j []=[iD ((xs.length:Int)-1-(j:Int)),enc (xs.getD (xs.length-1-j) default)]:=by simp[xm,List.getD,h]
theorem Qf{α σ β:Type}[Inhabited α]{f:Nat×σ->Option ((Nat×σ)⊕β)}{s0:σ}{b:β}(hb:g_ f (0,s0)=some b){g:Operand}{p1 p2:Nat}{x y:gV}{gf e:Nat}{enc:α->D}{xs:List α}
 (it:Iter P gf [.pv [gS e enc xs]] (xm enc xs)) (K:Nat) (S:σ->gU) (hw:ij k env s env (S s0))
 (round:∀j p t,j<xs.length->f (j,p)=some t->(∀b',t=.inr b'->b'=b)->
  rA P K x (wj (rA P K y (Dw K env S (fun p'=>t=.inl (j+1,p')) Q)) fun _ _ _=>False) (nX env [(p1,.d (iD ((xs.length:Int)-1-(j:Int)))),(p2,.d (enc (xs.getD (xs.length-1-j) default)))]) (S p))
 (done:∀p t,f (xs.length,p)=some t->(∀b',t=.inr b'->b'=b)->Q .normal env (S p))
 (hg:ev env g=.fn gf [] [.pv [gS e enc xs]]:=by rfl) (hK:k<=K:=by omega) (hfix:AV.iz (uz K) env=env:=by rfl) (hflat:(x.flat&&y.flat)=true:=by rfl):ng P k (.Dv g [p1,p2] x y) Q env s:=by
 rw[bE]at hflat;refine HX hb K hK hfix hflat hg it (fun i hi=>?_) S hw (fun j p t hj ht hbt=>?_) (fun p t ht hbt=>done p t (by rwa [vI]at ht) hbt)
 ·rw[vI]at hi;rw[Aw hi];rfl
 ·rw[vI]at hj;rw[Aw hj];refine(gO (round j p t hj ht hbt)).mono fun e env' s' hq=>?_
  cases e with
  |normal=>exact gO hq
  |_=>exact hq
theorem Us{ι:Type}{K:Nat}{env env':List AV}{s':gU}{S:ι->gU}{next:ι->Prop}:Dw K env S next Q .normal env' s'=∃i',next i'/\∃env'',ij K env' s' env'' (S i'):=(rfl)
end
attribute [go_sem] Us
def vz(O:Own)(W:World):Ctx:={O:=O,β:=fun _=>.no,s:=[],w:=W,k:=0,nm:=true}
theorem vz.inv{O:Own}{W:World}(hO:∀b o,O b o->b<W.heap.size)(hm:GW O W):Inv (vz O W) (fun _=>.no) [] W:=
 ⟨aC _,rfl,hm.mono fun b o v h1 h2=>⟨h1,fun h3=>h3.elim h2 fun⟨_,h⟩=>h⟩,fun _ _ _ h _=>h,fun _ _ _=>rfl,fun _ _ h=>.inl h,fun id b h=>.inl ⟨id,h⟩,fun _ h=>absurd h (fZ _),fun b o h=>⟨hO b o h,fun⟨_,h⟩=>h⟩,fun _=>rfl,fun _ _ _ h=>h.elim⟩
theorem vz.grown{O:Own}{β:gZ}{s:gU}{W W':World}(h:Inv (vz O W) β s W'):W.grownBy W' none:=by
 have hio:=h.io;simp only[yc,dP]at hio;exact⟨hio.1,hio.2.2,hio.2.1,h.size,fun k hk _=>h.oE k hk fun id hb=>hb⟩
theorem St.again{O X:Own}{W W' W2:World}{C':Ctx}{β:gZ}{env:List AV}{a:Act}(hx:Ext (vz O W) C')(h:St C' β env [] a W')(hid:AV.iz (fun _=>none) env=env)
 (hX:∀b o,X b o->b<W2.heap.size) (hk:∀b o v,W'.cell? ⟨b,o,none⟩=some v->¬O b o->W2.cell? ⟨b,o,none⟩=some v/\¬X b o):St (vz X W2) (fun _=>.no) env [] a W2 where
 defers:=by rw[h.defers.1 hx.nm];exact .nil
 inv:=vz.inv hX (h.inv.HA.mono fun b o v hc hn=>hk b o v hc fun h2=>hn (.inl (by rw[hx.O];exact h2)))
 len:=h.len
 env:=fun i x hx'=>by
  have h1:=AV.sP (β':=fun _=>.no) (ρ:=fun _=>none) (fun i j h=>by cases h) x _ (h.env i x hx');have h2:x.jW (fun _=>none)=x:=by
   have h3:(AV.iz (fun _=>none) env)[i]?=(env[i]?).map (AV.jW fun _=>none):=pE _ _ _;rw[hid,hx']at h3;simpa using h3.symm
  rw[h2]at h1;refine AV.iN (fun b o v hc hn=>?_) (fun _=>.refl _) _ _ h1;have h4:=hk b o v hc fun hO=>hn (.inl (by rw[hx.O];exact hO))
  refine⟨h4.1,?_⟩;rintro(h|⟨i,h⟩)
  ·exact h4.2 h
  ·exact h
theorem P6{P:Program}{c:Code}{mc:gV}{env:List AV}{G:Exit->List AV->Prop}(hc:mq P c=some mc.erase)(hf:mc.flat=true)
 (h:ng P 0 mc (fun e env' s'=>∃env1,ij 0 env' s' env1 []/\AV.iz (fun _=>none) env1=env1/\G e env1) env []) {a:Act} {W:World} {O:Own} (hst:St (vz O W) (fun _=>.no) env [] a W):
 c.wpIn Fence.wide 0 P (fun e a' W'=>W.grownBy W' none/\∃env1,St (vz O W') (fun _=>.no) env1 [] a' W'/\G e env1) a W:=
 dJ (h (vz O W) rfl (.inl hf) c hc _ a W hst) fun e a' W' ⟨C',hx,β',env',s',h1,env1,hw,hid,hG⟩=>by
  obtain⟨β2,h2⟩:=hw C' β' a' W' hx.k h1;have hg:=vz.grown (hx.inv _ _ _ h1.inv);exact⟨hg,env1,h2.again hx hid (fun b o h=>cp (hst.inv.low b o h).1 hg.size) (fun b o v h h'=>⟨h,h'⟩),hG⟩
theorem yb{P:Program}{C:Ctx}{ops:Array Oper}{K0:List AV->gU->Prop}{Q:Exit->Act->World->Prop}{m:Nat}:∀(n i:Nat)(ms:List iw)(env:List AV)(s:gU),i+(n+m)=ops.size->
 ((ops.toList.drop i).take n).mapM (oW P ops)=some (ms.map iw.erase)->sS P C.k ms env s K0->∀(β:gZ)(a:Act)(w:World),St C β env s a w->
 (∀β' env' s' a' w',St C β' env' s' a' w'->K0 env' s'->wpOpsIn C.nP 0 P ops Q (List.range' (i+n) m) a' w')->wpOpsIn C.nP 0 P ops Q (List.range' i (n+m)) a w
 |0,i,ms,env,s=>fun hi hm hk β a w hst hK=>by
  simp at hm;subst hm;rw[cg];exact hK β env s a w hst hk
 |n+1,i,ms,env,s=>fun hi hm hk β a w hst hK=>by
  have hlt:i<ops.toList.length:=by simp;omega
  rw[aE hlt,cG]at hm;simp only[cn,b_,ai]at hm;obtain⟨m0,h1,ms0,h2,h3⟩:=hm;cases ms with
  |nil=>cases h3
  |cons m1 ms'=>
  simp only[aN,dG,aM,bR]at h3;obtain⟨rfl,rfl⟩:=h3;rw[show n+1+m=(n+m)+1 by omega,dL];simp only[wpOpsIn];have ho:ops[i]?=some ops.toList[i]:=by simp at hlt;simp[hlt]
  rw[ho];simp only;refine tf (K:=fun env s=>sS P C.k ms' env s K0) h1 ?_ hst fun β' env' s' a' w' h4 h5=>yb n (i+1) ms' env' s' gN h2 h5 β' a' w' h4 fun β'' env'' s'' a'' w'' h6 h7=>?_
  ·simpa only[sS]using hk
  ·have:=hK β'' env'' s'' a'' w'' h6 h7;rwa [show i+(n+1)=i+1+n by omega]at this
structure Yk(P:Program)(els:List (List D))(l:Nat)(J Jx:Nat->Own->World->Prop):Prop where
 jn:∀i X A B,J i X A->A.grownBy B none->J i X B
 jx:∀i X A B,Jx i X A->A.grownBy B none->Jx i X B
 round:∀i X W1 (vs:Array Value),i<els.length->J i X W1->AV.ir (fun _=>.no) X W1 ((els.getD i []).map .d) vs.toList->YieldAt Fence.wide 0 P l vs W1 fun e W'=>∃X',
  ((e=.returned (.bool true)/\J (i+1) X' W')\/(e=.returned (.bool false)/\Jx (i+1) X' W'))/\(∀b o,X' b o->b<W'.heap.size)/\
  ∀b o v,W1.cell? ⟨b,o,none⟩=some v->¬X b o->W'.cell? ⟨b,o,none⟩=some v/\¬X' b o
def Live(els:List (List D))(J Jx:Nat->Own->World->Prop)(n:Nat)(X:Own)(W:World):Option (List (List D))->Prop
 |some r=>n<=els.length/\els.drop n=r/\J n X W
 |none=>∃m,m<els.length/\Jx (m+1) X W
theorem Live.grow{P:Program}{els:List (List D)}{l:Nat}{J Jx:Nat->Own->World->Prop}(h:Yk P els l J Jx){n:Nat}{X:Own}{W W':World}{r:Option (List (List D))}(hl:Live els J Jx n X W r)(hg:W.grownBy W' none):Live els J Jx n X W' r:=by
 cases r with
 |some r=>obtain⟨h1,h2,h3⟩:=hl;exact⟨h1,h2,h.jn _ _ _ _ h3 hg⟩
 |none=>obtain⟨m,h1,h2⟩:=hl;exact⟨m,h1,h.jx _ _ _ _ h2 hg⟩
abbrev sB:=Exit->List AV->Option (List (List D))->Prop
def Bs(P:Program)(l:Nat)(mc:gV)(Q:sB)(env:List AV)(r:Option (List (List D))):Prop:=
 ∀c,mq P c=some mc.erase->∀(els:List (List D))(J Jx:Nat->Own->World->Prop),Yk P els l J Jx->∀(n:Nat)(X:Own)(a:Act)(W:World),St (vz X W) (fun _=>.no) env [] a W->Live els J Jx n X W r->
  c.wpIn Fence.wide 0 P (fun e a' W'=>∃n' X' env' r',St (vz X' W') (fun _=>.no) env' [] a' W'/\Live els J Jx n' X' W' r'/\Q e env' r') a W
theorem jt{P:Program}{l:Nat}{mc:gV}{Q:sB}{env:List AV}{r:Option (List (List D))}(hf:mc.flat=true)
 (h:ng P 0 mc (fun e env' s'=>∃env1,ij 0 env' s' env1 []/\AV.iz (fun _=>none) env1=env1/\Q e env1 r) env []):Bs P l mc Q env r:=
 fun c hc els J Jx hJ n X a W hst hl=>dJ (P6 hc hf h hst) fun _ _ _ ⟨hg,env1,h1,h2⟩=>⟨n,X,env1,r,h1,hl.grow hJ hg,h2⟩
def Wo(P:Program)(l:Nat)(y:gV)(Q:sB):sB
 |.normal,env,r=>Bs P l y Q env r
 |e,env,r=>Q e env r
theorem ku{P:Program}{l:Nat}{x y:gV}{Q:sB}{env:List AV}{r:Option (List (List D))}(h:Bs P l x (Wo P l y Q) env r):Bs P l (.seq x y) Q env r:=
 fun c hc els J Jx hJ n X a W hst hl=>by
  obtain⟨c1,c2,rfl,h1,h2⟩:=Gf (x:=x.erase) (y:=y.erase) hc;refine wpIn_seq (dJ (h c1 h1 els J Jx hJ n X a W hst hl) fun e a' W' ⟨n',X',env',r',k1,k2,k3⟩=>?_);cases e with
  |normal=>exact k3 c2 h2 els J Jx hJ n' X' a' W' k1 k2
  |exit id=>exact⟨n',X',env',r',k1,k2,k3⟩
  |goto l=>exact⟨n',X',env',r',k1,k2,k3⟩
  |ret=>exact⟨n',X',env',r',k1,k2,k3⟩
  |panic ch=>exact⟨n',X',env',r',k1,k2,k3⟩
  |outgrown=>exact⟨n',X',env',r',k1,k2,k3⟩
def MZ(id:Nat)(Q:sB):sB
 |.exit id',env,r=>if id'=id then Q .normal env r else Q (.exit id') env r
 |e,env,r=>Q e env r
theorem qT{P:Program}{l id:Nat}{x:gV}{Q:sB}{env:List AV}{r:Option (List (List D))}(h:Bs P l x (MZ id Q) env r):Bs P l (.block id x) Q env r:=
 fun c hc els J Jx hJ n X a W hst hl=>by
  obtain⟨c1,rfl,h1⟩:=CD (x:=x.erase) hc;refine wpIn_block (dJ (h c1 h1 els J Jx hJ n X a W hst hl) fun e a' W' ⟨n',X',env',r',k1,k2,k3⟩=>?_);cases e with
  |exit id'=>
   simp only[MZ]at k3;simp only[Exit.inBlock];split<;>rename_i hid<;>simp only[hid,aB,aF]at k3<;>exact⟨n',X',env',r',k1,k2,k3⟩
  |normal=>exact⟨n',X',env',r',k1,k2,k3⟩
  |goto l=>exact⟨n',X',env',r',k1,k2,k3⟩
  |ret=>exact⟨n',X',env',r',k1,k2,k3⟩
  |panic ch=>exact⟨n',X',env',r',k1,k2,k3⟩
  |outgrown=>exact⟨n',X',env',r',k1,k2,k3⟩
theorem HE{P:Program}{l:Nat}{x:gV}{Q:sB}{env env1:List AV}{r:Option (List (List D))}(hw:ij 0 env [] env1 [])(hid:AV.iz (fun _=>none) env1=env1)(h:Bs P l x Q env1 r):Bs P l x Q env r:=
 fun c hc els J Jx hJ n X a W hst hl=>by
  obtain⟨β',hst'⟩:=hw (vz X W) _ a W rfl hst;exact h c hc els J Jx hJ n X a W (hst'.again (Ext.refl _) hid (fun b o h=>(hst.inv.low b o h).1) fun b o v h h'=>⟨h,h'⟩) hl
def Jb{ι:Type}(E:ι->List AV)(R:ι->Option (List (List D)))(inv:ι->Prop)(Q:sB):sB
 |.normal,env,r=>∃i',inv i'/\ij 0 env [] (E i') []/\r=R i'
 |e,env,r=>Q e env r
theorem AK{P:Program}{l:Nat}{x:gV}{Q:sB}{env:List AV}{ι:Type}(E:ι->List AV)(R:ι->Option (List (List D)))(inv:ι->Prop)(μ:ι->Nat)(i0:ι)(h0:inv i0)(hw:ij 0 env [] (E i0) [])(hid:∀i,AV.iz (fun _=>none) (E i)=E i)
 (round:∀i,inv i->Bs P l x (Jb E R (fun i'=>inv i'/\μ i'<μ i) Q) (E i) (R i)):Bs P l (.loop x) Q env (R i0):=by
 refine HE hw (hid i0) fun c hc els J Jx hJ n X a W hst hl=>?_
 obtain⟨c1,rfl,h1⟩:=D0 (x:=x.erase) hc;intro b kk cs hro hb hr;have key:∀m i n X a W,μ i=m->inv i->St (vz X W) (fun _=>.no) (E i) [] a W->Live els J Jx n X W (R i)->
  ∃e a' W',(∃n' X' env' r',St (vz X' W') (fun _=>.no) env' [] a' W'/\Live els J Jx n' X' W' r'/\Q e env' r')/\ArrivesIn (Machine.fenced P Fence.wide) P (lone (b.atR a (.code c1:: .inLoop c1::kk)) cs W) b kk cs e a' W':=by
  intro m;induction m using Nat.strongRecOn with
  |_ m ih=>
   intro i n X a W hn hi hst hl;obtain⟨e,a₁,w₁,hq,harr⟩:=round i hi c1 h1 els J Jx hJ n X a W hst hl b (.inLoop c1::kk) cs hro hb hr;obtain⟨n',X',env',r',k1,k2,hq⟩:=hq;cases e with
   |normal=>
    obtain⟨i',⟨hi',hlt⟩,hwk,rfl⟩:=hq;obtain⟨β2,hst2⟩:=hwk (vz X' w₁) _ a₁ w₁ rfl k1;have hst3:=hst2.again (Ext.refl _) (hid i') (fun b o h=>(k1.inv.low b o h).1) fun b o v h h'=>⟨h,h'⟩
    obtain⟨e₂,a₂,w₂,hq₂,harr₂⟩:=ih (μ i') (hn▸hlt) i' n' X' a₁ w₁ rfl hi' hst3 k2;exact⟨e₂,a₂,w₂,hq₂,.of_steps (StepsIn.trans harr (.one (eW hb hr rfl) stepR_inLoop)) harr₂⟩
   |exit id=>exact⟨_,a₁,w₁,⟨n',X',env',r',k1,k2,hq⟩,.pass (x:=.inLoop c1) rfl (fun _ _=>.inl (by simp)) harr⟩
   |goto l=>exact⟨_,a₁,w₁,⟨n',X',env',r',k1,k2,hq⟩,.pass (x:=.inLoop c1) rfl (fun _ _=>.inl (by simp)) harr⟩
   |ret=>exact⟨_,a₁,w₁,⟨n',X',env',r',k1,k2,hq⟩,.pass (x:=.inLoop c1) rfl (fun _ _=>.inl (by simp)) harr⟩
   |panic ch=>exact⟨_,a₁,w₁,⟨n',X',env',r',k1,k2,hq⟩,.pass (x:=.inLoop c1) rfl (fun _ _=>.inl (by simp)) harr⟩
   |outgrown=>exact⟨_,a₁,w₁,⟨n',X',env',r',k1,k2,hq⟩,.pass (x:=.inLoop c1) rfl (fun _ _=>.inl (by simp)) harr⟩
 obtain⟨e,a',W',hq,harr⟩:=key _ i0 n X a W rfl h0 hst hl;exact⟨e,a',W',hq,.of_steps (.one (eW hb hr rfl) stepR_loop) harr⟩
theorem Ed{P:Program}{o:Oper}{c:Call}{ρ:Operand->Value}{w:World}{l:Nat}(hop:o.op=.call c){g:Operand}(hc:c.callee=.value g)(hg:ρ g=.func (.yield l) #[] #[]):
 (execOp ρ o).run P w=(Instr.yield l (c.args.map ρ)).run P w:=by
 simp[execOp,hop,resolve,hc,hg,Deferred.ofValue,invoke]
theorem Cb{P:Program}{o:Oper}{g:Operand}{xs:List Operand}(h:jI P o=some (.mz g xs)):∃c,o.op=.call c/\c.callee=.value g/\c.args.toList=xs:=by
 unfold jI at h
 repeat' split at h
 all_goals first
  |(cases h;done)
  |(simp[ai,ay]at h;done)
  |(simp only[aM,rB.mz.injEq]at h;obtain⟨rfl,rfl⟩:=h;exact⟨_,by assumption,by assumption,rfl⟩)
theorem vU{α β:Type}{f:α->Option β}:∀{xs:List α}{ys:List β}(n:Nat),xs.mapM f=some ys->(xs.take n).mapM f=some (ys.take n)/\(xs.drop n).mapM f=some (ys.drop n)
 |xs,ys,0,h=>by simpa using h
 |[],ys,n+1,h=>by simp at h;subst h;simp
 |x::xs,ys,n+1,h=>by
  simp only[cn,b_,dG,ai]at h;obtain⟨y,h1,r,h2,h3⟩:=h;cases h3;obtain⟨k1,k2⟩:=vU n h2;refine⟨?_,by simpa using k2⟩;simp only[cG,cn,b_,dG,h1,k1,aa]
theorem vz.gX{X:Own}{W:World}:(vz X W).gX (fun _=>.no) []=X:=by funext b o;exact propext ⟨fun h=>h.elim id fun⟨_,h⟩=>h.elim,fun h=>.inl h⟩
theorem I9{P:Program}{l:Nat}{pre post:List iw}{d:Nat}{g:Operand}{args:List Operand}{Q:sB}{env:List AV}{x:List D}{r:List (List D)}
 (hpre:sS P 0 pre env [] (fun env' s'=>∃env1,ij 0 env' s' env1 []/\AV.iz (fun _=>none) env1=env1/\ev env1 g=.d (.lit (.func (.yield l) #[] #[]))/\args.map (ev env1)=x.map .d/\
  ∀b,sS P 0 post (env1.set d (.d (bD b))) [] (fun env' s'=>∃env2,ij 0 env' s' env2 []/\AV.iz (fun _=>none) env2=env2/\Q .normal env2 (if b then some r else none)))):
 Bs P l (.gQ (pre++⟨some d,.mz g args,none⟩::post)) Q env (some (x::r)):=fun c hc els J Jx hJ n X a W hst hl=>by
 obtain⟨rid,ops,rfl,mops⟩:=zR (ms:=(pre++⟨some d,.mz g args,none⟩::post).map iw.erase) hc;have hlen:ops.size=pre.length+(1+post.length):=by
  have:=(uB mops).1;simp at this;omega
 obtain⟨t1,t2⟩:=vU pre.length mops;have e1:(List.map iw.erase (pre++⟨some d,.mz g args,none⟩::post)).take pre.length=pre.map iw.erase:=by rw[aP];exact eK (by simp)
 have e2:(List.map iw.erase (pre++⟨some d,.mz g args,none⟩::post)).drop pre.length=(⟨some d,.mz g args,none⟩::post).map iw.erase:=by rw[aP];exact List.drop_left' (by simp)
 rw[e1]at t1;rw[e2]at t2;obtain⟨t3,t4⟩:=vU 1 t2;rw[List.drop_drop]at t4;simp only[aN,cG,dK,fy,bG]at t3 t4;have hlt:pre.length<ops.toList.length:=by simp;omega
 rw[aE hlt]at t3;simp only[cG,dK,cn,List.mapM_nil,b_,dG,ai,aM]at t3;obtain⟨m0,q6,_,rfl,q6'⟩:=t3;simp only[bR,and_true]at q6';subst q6';have g6:ops[pre.length]?=some ops.toList[pre.length]:=by simp at hlt;simp[hlt]
 generalize ops.toList[pre.length]=o6 at q6 g6;obtain⟨p6,d6,gd6⟩:=sX q6;have hmo6:jI P o6=some (.mz g args):=by
  cases hq:jI P o6 with
  |some y=>rw[hq]at p6;rw[show y=rB.mz g args from p6.symm]
  |none=>rw[hq]at p6;cases p6
 obtain⟨cl,hop6,hcal,hargs6⟩:=Cb hmo6;have hgd6:o6.guard=none:=by
  cases hq:o6.guard with
  |none=>rfl
  |some x=>rw[hq]at gd6;cases gd6
 have hdst6:o6.dst=some d:=d6.symm;obtain⟨hn,hdr,hJn⟩:=hl;have hnl:n<els.length:=by
  rcases cH n els.length with h|h
  ·exact h
  ·rw[bu h]at hdr;cases hdr
 have hx:els.getD n []=x/\els.drop (n+1)=r:=by
  rw[aE hnl]at hdr;simp only[bR]at hdr;exact⟨by rw[av,az hnl];exact hdr.1,hdr.2⟩
 refine wpIn_region ?_;rw[hlen,dI];refine yb (C:=vz X W) (m:=1+post.length) pre.length 0 pre _ [] (by rw[hlen];omega) (by rw[bG];exact t1) hpre _ a W hst fun β' env' s' a4 W4 hst4 hK0=>?_
 obtain⟨env4,hw4,hid4,hyv4,hargs4,hpost⟩:=hK0;obtain⟨β4,hst4'⟩:=hw4 (vz X W) β' a4 W4 rfl hst4;have hg4:W.grownBy W4 none:=vz.grown hst4.inv;have hst5:=hst4'.again (W2:=W4) (X:=X) (Ext.refl _) hid4 (fun b o h=>cp (hst.inv.low b o h).1 hg4.size) (fun b o v h h'=>⟨h,h'⟩);have hJ4:=hJ.jn _ _ _ _ hJn hg4;rw[cg,show 1+post.length=post.length+1 by omega,dL];rw[wpOpsIn];rw[g6];simp only;rw[ah (vj hgd6)];refine⟨fun _ _=>trivial,?_⟩;have hnd:∀c,o6.op≠ .defer c:=by rw[hop6];simp
 have hyv:a4.eval g=.func (.yield l) #[] #[]:=by
  have:=hst5.ev g;rw[hyv4]at this;exact qc this
 rw[ec _ _ _ hnd,Ed (l:=l) hop6 hcal hyv];have hoks:AV.ir (fun _=>.no) X W4 ((els.getD n []).map .d) (cl.args.map a4.eval).toList:=by
  have:=yZ hst5 args;rw[hargs4,vz.gX]at this;rw[hx.1,dB,hargs6];exact this
 obtain⟨fn',tmps',dz',bd',hy,hR⟩:=hJ.round n X W4 _ hnl hJ4 hoks;rw[hy,Oper.uponIn_round];refine⟨(fun h=>by cases h),RoundIn.mono hR ?_⟩;rintro e5 W5 ⟨X5,hres5,hX5,hk5⟩;obtain⟨bb,rfl,hJ5⟩:∃bb,e5=.returned (.bool bb)/\Live els J Jx (n+1) X5 W5 (if bb then some r else none):=by
  rcases hres5 with⟨h1,h2⟩|⟨h1,h2⟩
  ·exact⟨true,h1,hnl,hx.2,h2⟩
  ·exact⟨false,h1,n,hnl,h2⟩
 show wpOpsIn Fence.wide 0 P ops _ (List.range' (pre.length+1) post.length) (a4.put o6.dst (.bool bb)) W5;rw[hdst6];have hst6:St (vz X5 W5) (fun _=>.no) (env4.set d (.d (bD bb))) [] (a4.put (some d) (.bool bb)) W5:=
  (hst5.again (Ext.refl _) hid4 hX5 hk5).put (x:=.d (bD bb)) (v:=.bool bb) (by simp[AV.ok,bD,D.ok,one]) (some d)
 have:=yb (C:=vz X5 W5) (Q:=fun e a' W'=>∃n' X' env' r',St (vz X' W') (fun _=>.no) env' [] a' W'/\Live els J Jx n' X' W' r'/\Q e env' r') (m:=0) post.length (pre.length+1) post _ [] (by rw[hlen];omega) (by rw[bH (by simp;omega)];exact t4) (hpost bb) _ _ W5 hst6 fun β' env' s' a7 W7 hst7 hK0=>?_
 ·rw[dg]at this;exact this
 obtain⟨env7,hw7,hid7,hQ7⟩:=hK0;obtain⟨β7,hst7'⟩:=hw7 (vz X5 W5) β' a7 W7 rfl hst7;have hg7:W5.grownBy W7 none:=vz.grown hst7.inv;have hst8:=hst7'.again (W2:=W7) (X:=X5) (Ext.refl _) hid7 (fun b o h=>cp (hX5 b o h) hg7.size) (fun b o v h h'=>⟨h,h'⟩);exact⟨n+1,X5,env7,_,hst8,hJ5.grow hJ hg7,hQ7⟩
theorem EA{P:Program}{gf nt:Nat}{caps:List AV}{els:List (List D)}{mc:gV}(h:jV P gf mc nt [])(hen:enters P gf=true)(hcaps:AV.iz (fun _=>none) caps=caps)
 (hmc:∀l,Bs P l mc (fun e env' r=>(e=.normal\/e=.ret)/\(r=some []\/r=none)) ([.d (.lit (.func (.yield l) #[] #[]))]++caps++List.replicate (nt-(1+caps.length)) .gW) (some els)):Iter P gf caps els:=by
 refine⟨hcaps,xz hen,fun O W lb hlb hG hO l J Jx hJ hJx hround hJ0=>?_⟩;obtain⟨fn,hf,hb,hnt,hres⟩:=h.fn;rw[ai]at hb;obtain⟨c,hbody,hm⟩:=hb;have hIt:Yk P els l J Jx:=⟨fun i X A B h hg=>hJ i X A B none h hg fun r e=>(by cases e),fun i X A B h hg=>hJx i X A B none h hg fun r e=>(by cases e),hround⟩;have hlen:=AV.iC hlb;refine callsIn_of_wp hf hbody trivial ?_;have hst0:St (vz O W) (fun _=>.no) ([.d (.lit (.func (.yield l) #[] #[]))]++caps++List.replicate (nt-(1+caps.length)) .gW) []
  {tmps:=(#[.func (.yield l) #[] #[]]++lb)++Array.replicate (fn.ntmps-(#[.func (.yield l) #[] #[]]++lb:Array Value).size) undef,defers:=[]} W:=by
  rw[hnt];have hsz:lb.size=caps.length:=by simpa using hlen
  refine⟨.nil,vz.inv hO hG,by simp[hsz];omega,fun i x hx=>?_⟩;rw[vz.gX];rcases i with _|i
  ·simp at hx;subst hx;simp[AV.ok,D.ok,one,fk]
  ·rw[eF]at hx;split at hx
   ·rename_i hi;simp at hi hx;have hi2:i<lb.size:=by omega
    have h1:((#[Value.func (.yield l) #[] #[]]++lb)++Array.replicate (nt-(#[Value.func (.yield l) #[] #[]]++lb:Array Value).size) undef).getD (i+1) undef=lb[i]:=by
     rw[bV,Array.getElem?_append_left (by simp;omega),Array.getElem?_append_right (by simp)];simp[hi2]
    show AV.ok _ _ _ _ (Array.getD _ (i+1) undef);rw[h1];exact(AV.je.1 hlb).2 i x _ hx (by simp[hi2])
   ·have:x=.gW:=by
     rw[dw]at hx;split at hx
     ·cases hx;rfl
     ·cases hx
    subst this;simp[AV.ok]
 refine dJ (hmc l c hm els J Jx hIt 0 O _ W hst0 ⟨cQ _,rfl,hJ0⟩) fun e a' W' ⟨n',X',env',r',k1,k2,k3,k4⟩=>?_
 have hR:(∃X,J els.length X W')\/∃m X,m<els.length/\Jx (m+1) X W':=by
  rcases k4 with rfl|rfl
  ·obtain⟨h1,h2,h3⟩:=k2;have:n'=els.length:=by
    have:=bX List.length h2;simp at this;omega
   subst this;exact .inl ⟨X',h3⟩
  ·obtain⟨m,h1,h2⟩:=k2;exact .inr ⟨m,X',h1,h2⟩
 have fin:a'.defers=[]/\∃v,(results fn a'.tmps).run P W'=.ok v W'/\((∃v',Ending.returned v=Ending.returned v')/\((∃X,J els.length X W')\/∃m X,m<els.length/\Jx (m+1) X W')):=by
  refine⟨k1.defers.1 rfl,.tuple #[],?_,⟨_,rfl⟩,hR⟩;have hr0:fn.results.toList=[]:=by
   cases hq:fn.results.toList with
   |nil=>rfl
   |cons x r=>rw[hq]at hres;simp[cn,ai]at hres
  rw[zg,dX,hr0];rfl
 rcases k3 with rfl|rfl
 ·exact fin
 ·exact fin
theorem Cu{P:Program}{l:Nat}{mc:gV}{Q:sB}{env:List AV}{r:Option (List (List D))}{p:Prop}(hp:∀X a W,St (vz X W) (fun _=>.no) env [] a W->p)(h:p->Bs P l mc Q env r):Bs P l mc Q env r:=
 fun c hc els J Jx hJ n X a W hst hl=>h (hp X a W hst) c hc els J Jx hJ n X a W hst hl
theorem CM{X:Own}{a:Act}{W:World}{env:List AV}{i e:Nat}{ds:List D}{nl:Option Bool}{cs1 cs2:List D}(hst:St (vz X W) (fun _=>.no) env [] a W)(h:env[i]?=some (.pv (cs1++ .sl e nl ds::cs2))):ds.length<2^63:=by
 have:=hst.env i _ h;simp only[AV.ok]at this;obtain⟨b,o,vs,_,_,h2⟩:=this;have h3:=(D.je.1 h2).2 cs1.length (.sl e nl ds) (vs.getD cs1.length undef) (by simp) (by
  have hl:=D.iC h2;have:cs1.length<vs.length:=by rw[hl];simp
  simp[av,az this])
 simp only[D.ok]at h3;obtain⟨_,a2,cap,_,h4,_⟩:=h3;exact Nat.lt_of_le_of_lt h4.1 h4.2
def Ry(e:Nat):List iw:=[⟨some 11,.mv (.tmp 0),none⟩,⟨some 12,.mv (.tmp 3),none⟩,⟨some 13,.load 1 false (.tmp 1),none⟩,⟨some 14,.mv (.tmp 3),none⟩,⟨some 15,.tg e (.tmp 13) (.tmp 14),none⟩,⟨some 16,.load e true (.tmp 15),none⟩]
def Tu(e:Nat):gV:=
 .seq (.gQ [⟨some 4,.load 1 false (.tmp 1),none⟩,⟨some 5,.len (.tmp 4),none⟩,⟨some 6,.bin .sub (.tmp 5) (.const (.int .i64 1)),none⟩,⟨some 3,.mv (.tmp 6),none⟩])
  (.block 0 (.loop (.seq (.seq (.gQ [⟨some 7,.mv (.tmp 3),none⟩,⟨some 8,.bin .geq (.tmp 7) (.const (.int .i64 0)),none⟩]) (.cond (.tmp 8) .skip (.exit 0)))
   (.seq (.block 1 (.seq (.gQ (Ry e++[⟨some 17,.mz (.tmp 11) [.tmp 12,.tmp 16],none⟩,⟨some 18,.un .not (.tmp 17),none⟩])) (.cond (.tmp 18) .ret .skip)))
    (.gQ [⟨some 9,.mv (.tmp 3),none⟩,⟨some 10,.bin .sub (.tmp 9) (.const (.int .i64 1)),none⟩,⟨some 3,.mv (.tmp 10),none⟩])))))
section
attribute [local irreducible] rA vi uM lW lP ng jX Ak Bj yP Bi yF tw lK nO A7 iG kj Bs
theorem KA{P:Program}{gf e:Nat}{α:Type}[Inhabited α](enc:α->D)(hag:∀x,∃cs,enc x=.agg cs/\cs.length=e)(h:jV P gf (Tu e) 19 [])(hen:enters P gf=true)(xs:List α):
 Iter P gf [.pv [gS e enc xs]] (xm enc xs):=by
 refine EA h hen rfl fun l=>Cu (p:=xs.length<2^63) (fun X a W hst=>by have:=CM (i:=1) (cs1:=[]) (cs2:=[]) (ds:=xs.map enc) (e:=e) (nl:=none) hst rfl;simpa using this) fun hlen=>?_
 delta Tu;refine ku (jt rfl (gO ?_));show rA _ _ _ _ ([.d (.lit (.func (.yield l) #[] #[])),.pv [gS e enc xs]]++List.replicate 17 .gW) [];refine iE ?_;let E:Nat->List AV:=fun j=>[.d (.lit (.func (.yield l) #[] #[])),.pv [gS e enc xs],.gW,.d (iD ((xs.length:Int)-1-(j:Nat)))]++List.replicate 15 .gW
 have hw0:IntKind.i64.wrap ((xs.length:Int)-1)=(xs.length:Int)-1-(0:Nat):=by rw[wrap_i64 gN gN];simp
 rw[hw0];refine⟨E 0,wk,rfl,qT ?_⟩;have hdrop:∀j,j<xs.length->(xm enc xs).drop j=[iD ((xs.length:Int)-1-(j:Nat)),enc (xs.getD (xs.length-1-j) default)]::(xm enc xs).drop (j+1):=fun j hj=>by
  have hj':j<(xm enc xs).length:=by rw[vI];exact hj
  rw[aE hj'];congr 1;have:=Aw (enc:=enc) hj;rw[av,az hj']at this;exact this
 refine AK E (fun j=>some ((xm enc xs).drop j)) (fun j=>j<=xs.length) (fun j=>xs.length-j) 0 (cQ _) .refl (fun _=>rfl) fun j hj=>?_
 refine ku (jt rfl (gO ?_));show rA _ _ _ _ ([.d (.lit (.func (.yield l) #[] #[])),.pv [gS e enc xs],.gW,.d (iD ((xs.length:Int)-1-(j:Nat)))]++List.replicate 15 .gW) [];by_cases hz:(0:Int)<=(xs.length:Int)-1-(j:Nat)
 ·have hc:decide ((0:Int)<=(xs.length:Int)-1-(j:Nat))=true:=by simpa using hz
  refine qz hc ?_;refine⟨E j,wk,rfl,?_⟩;have hjl:j<xs.length:=by omega
  have hzn:((xs.length:Int)-1-(j:Nat)).toNat=xs.length-1-j:=by omega
  rw[hdrop j hjl];refine ku (qT (ku (I9 (nS ?_))));delta Ry;show vi _ _ _ _ ([.d (.lit (.func (.yield l) #[] #[])),.pv [gS e enc xs],.gW,.d (iD ((xs.length:Int)-1-(j:Nat)))]++List.replicate 15 .gW) [];refine iE ?_;repeat(refine xN gN ?_;refine iE ?_)
  rw[hzn];obtain⟨cs,hcs,hcl⟩:=hag (xs.getD (xs.length-1-j) default);have hd:gT (enc (xs.getD (xs.length-1-j) default))=cs:=by rw[hcs];rfl
  rw[hd];refine⟨gN,?_⟩;rw[bH gN,<-hcs];refine⟨[.d (.lit (.func (.yield l) #[] #[])),.pv [gS e enc xs],.gW,.d (iD ((xs.length:Int)-1-(j:Nat))),.gW,.gW,.gW,.gW,.gW,.gW,.gW,.d (.lit (.func (.yield l) #[] #[])),.d (iD ((xs.length:Int)-1-(j:Nat))),.gW,.gW,.gW,.d (enc (xs.getD (xs.length-1-j) default)),.gW,.gW],wk,rfl,rfl,rfl,fun b=>nS ?_⟩;refine iE ?_;refine⟨[.d (.lit (.func (.yield l) #[] #[])),.pv [gS e enc xs],.gW,.d (iD ((xs.length:Int)-1-(j:Nat)))]++List.replicate 14 .gW++[.d (bD (!b))],wk,rfl,jt rfl (gO ?_)⟩;show rA _ _ _ _ ([.d (.lit (.func (.yield l) #[] #[])),.pv [gS e enc xs],.gW,.d (iD ((xs.length:Int)-1-(j:Nat)))]++List.replicate 14 .gW++[.d (bD (!b))]) [];cases b with
  |false=>refine iE ?_;exact⟨E j,wk,rfl,.inr rfl,.inr rfl⟩
  |true=>
   refine iE ?_;refine⟨E j,wk,rfl,jt rfl (gO ?_)⟩;show rA _ _ _ _ ([.d (.lit (.func (.yield l) #[] #[])),.pv [gS e enc xs],.gW,.d (iD ((xs.length:Int)-1-(j:Nat)))]++List.replicate 15 .gW) [];refine iE ?_;have hw1:IntKind.i64.wrap ((xs.length:Int)-1-(j:Nat)-1)=(xs.length:Int)-1-((j+1:Nat):Int):=by rw[wrap_i64 gN gN];omega
   rw[hw1];exact⟨E (j+1),wk,rfl,j+1,⟨hjl,gN⟩,.refl,rfl⟩
 ·have hc:decide ((0:Int)<=(xs.length:Int)-1-(j:Nat))=false:=by simpa using hz
  refine qz hc ?_;have hjl:j=xs.length:=by omega
  subst hjl;exact⟨E xs.length,wk,rfl,.inl rfl,.inl (by rw[bu (by rw[vI];exact aC _)])⟩
end
theorem h_.XM{P:Program}{f:Nat}{args:List AV}{g id t:Nat}{d:D}(h:h_ P f args [] 0 fun x s'=>x=.fn g [] [.ptr id 0]/\s'=[(id,.obj t [.d d])]):
 h_ P f args [] 0 fun x s'=>x=.fn g [] [.pv [d]]/\s'=[]:=fun C vs hs hk hinv hargs=>by
 refine(h C vs hs hk hinv hargs).mono fun e w' ⟨v,x,β',s',he,hi,hx,hxe,hse⟩=>?_
 subst hxe hse;have ho:=hi.obs id;simp only[sat,aB]at ho;obtain⟨b,us,hb,hh,hone,pre,rest,hus,hpre⟩:=ho;simp only[AV.ir]at hpre;obtain⟨u,r,rfl,hu,rfl⟩:=hpre;simp only[AV.ok]at hu;simp only[AV.ok,AV.ir]at hx;obtain⟨fs,cs,rfl,hfs,pv,r2,hcs,⟨b2,hb2,hpv⟩,rfl⟩:=hx;rw[hb]at hb2;cases hb2;have hn:∀b o,¬own (gY β' id .no) [] b o:=fun b o ⟨_,h⟩=>h
 have hsat:∀j,sat (iW id [(id,Ob.obj t [.d d])]) j=sat ([]:gU) j:=fun j=>by
  rw[oC];by_cases hj:j=id
  ·simp[hj,sat]
  ·simp[hj,sat,Ob.kill]
 have hI:Inv C (gY β' id .no) [] w':=by
  have h1:=hi.kill id (by rw[hk];exact cQ _);exact⟨h1.size,h1.io,h1.gl,h1.keep,h1.oE,fun b o h=>(hn b o h).elim,fun i b h=>h.elim,h1.pl,h1.low,fun i=>by
   have h2:=h1.obs i;rw[hsat i]at h2;simp only[sat]at h2⊢;exact h2,fun i j b h=>h.elim⟩
 refine⟨_,_,_,_,he,hI,?_,rfl,rfl⟩;have hc:w'.cell? ⟨b,0,none⟩=some u:=by
  simp only[World.cell?,hh,aa];have:us.toList[0]?=some u:=by rw[hus];rfl
  simpa using this
 have hnO:¬C.O b 0:=fun hO=>by
  have h1:=hi.low b 0 hO;have hown:own β' [(id,.obj t [.d d])] b 0:=⟨id,by simp only[sat,aB];exact hb⟩;rcases hi.n_ b 0 hown with h2|h2
  ·exact h1.2 h2
  ·omega
 simp only[AV.ok,AV.ir,D.ir];have h1u:one u=true:=hone u (by rw[hus];simp);have hdu:D.ok (C.gX (gY β' id .no) []) w' d u:=D.iN (fun b o v hc hn'=>⟨hc,fun h=>hn' (h.imp (fun h=>h) fun h=>(hn b o h).elim)⟩) _ _ hu;refine⟨fs,cs,rfl,hfs,pv,[],hcs,⟨b,0,[u],hpv,fun j v hj=>?_,u,[],rfl,h1u,hdu,rfl⟩,rfl⟩;cases j with
 |zero=>simp at hj;subst hj;exact⟨hc,fun h=>h.elim hnO (hn _ _),h1u⟩
 |succ j=>simp at hj
section
attribute [local irreducible] rA vi uM lW lP ng jX Ak Bj yP Bi yF tw lK nO A7 iG kj
def L2(gf t:Nat):gV:=
 .seq (.gQ [⟨some 1,.box 1 t (.tmp 0),none⟩,⟨some 2,.mv (.const .nilFunc),none⟩]) (.seq (.gQ [⟨some 3,.zS gf [] [.tmp 1],none⟩,⟨some 2,.mv (.tmp 3),none⟩]) .ret)
theorem G4{P:Program}{f gf t e:Nat}{α:Type}(enc:α->D)(xs:List α)(h:jV P f (L2 gf t) 4 [.tmp 2]):
 h_ P f [.d (gS e enc xs)] [] 0 fun x s'=>x=.fn gf [] [.pv [gS e enc xs]]/\s'=[]:=by
 refine h_.XM (id:=1) (t:=t) ?_;refine h.mm (gO ?_);delta L2;refine iE ?_;exact⟨[],by simp,oG,oG⟩
end
def TL(nid:Nat)(x y:AV):Prop:=∀(β:gZ)(O:Own)(w:World)(v:Value),β nid=.tok sJ 0->AV.ok β O w x v->AV.ok β O w y v
def OD(nid:Nat)(xs ys:List AV):Prop:=∀(β:gZ)(O:Own)(w:World)(vs:List Value),β nid=.tok sJ 0->AV.ir β O w xs vs->AV.ir β O w ys vs
theorem TL.refl{nid:Nat}{x:AV}:TL nid x x:=fun _ _ _ _ _ h=>h
theorem OD.nil{nid:Nat}:OD nid [] []:=fun _ _ _ _ _ h=>h
theorem OD.cons{nid:Nat}{x y:AV}{xs ys:List AV}(h:TL nid x y)(hs:OD nid xs ys):OD nid (x::xs) (y::ys):=fun β O w vs hb hv=>by
 simp only[AV.ir]at hv⊢;obtain⟨v,r,h1,h2,h3⟩:=hv;exact⟨v,r,h1,h β O w v hb h2,hs β O w r hb h3⟩
theorem TL.nil{nid e e0:Nat}:TL nid (.d (.sl e0 (some true) [])) (.kL e nid 0):=fun β O w v hb hv=>by
 simp only[AV.ok]at hv⊢;have:=CF hv;subst this;exact⟨_,_,by rw[hb];exact⟨rfl,rfl⟩,aC _,fun _=>rfl,.inl ⟨none,rfl,trivial⟩⟩
theorem TL.lE{nid:Nat}{xs ys:List AV}(h:OD nid xs ys):TL nid (.lE xs) (.lE ys):=fun β O w v hb hv=>by
 simp only[AV.ok]at hv⊢;obtain⟨vs,h1,h2⟩:=hv;exact⟨vs,h1,h β O w _ hb h2⟩
theorem TL.agg{nid:Nat}{xs ys:List AV}(h:OD nid xs ys):TL nid (.agg xs) (.agg ys):=fun β O w v hb hv=>by
 simp only[AV.ok]at hv⊢;obtain⟨vs,h1,h0,h2⟩:=hv;exact⟨vs,h1,h0,h β O w _ hb h2⟩
theorem DE{O:Own}{w:World}:∀{xs:List D}{vs:List Value},D.ir O w xs vs->∀u∈vs,one u=true
 |[],vs,h=>by simp[D.ir]at h;subst h;simp
 |x::xs,vs,h=>by
  simp only[D.ir]at h;obtain⟨v,r,rfl,h1,_,h3⟩:=h;intro u hu;rcases bL.1 hu with rfl|hu
  ·exact h1
  ·exact DE h3 u hu
theorem TL.Yl{nid:Nat}{ds:List D}{ys:List AV}(h:OD nid (ds.map .d) ys):TL nid (.d (.agg ds)) (.agg ys):=fun β O w v hb hv=>by
 simp only[AV.ok,D.ok]at hv⊢;obtain⟨vs,h1,h2⟩:=hv;exact⟨vs,h1,DE h2,h β O w _ hb (FD h2)⟩
theorem iV.X6{k:Nat}{x:AV}{s:gU}(nid t e:Nat)(y:AV)(hd:sat s nid=.dead)(hxy:TL nid x y):iV k x s y (sset (sset s nid (.tok t e 0)) nid (.kO t e 0 [])):=fun C β w v hC hi hx=>by
 have hst:St C β [] s {tmps:=#[],defers:=[]} w:=⟨.nil,hi,rfl,fun i x hx=>by simp at hx⟩;obtain⟨h1,m⟩:=hst.CX (id:=nid) (t:=t) (e:=e) hd;obtain⟨h2,hf⟩:=h1.inv.X9 (id:=nid) (by rw[jv,ah rfl]);exact⟨_,h2,by rw[hf];exact hxy _ _ _ _ (by simp[gY]) (m.ok hx)⟩
def sq:Nat->List rB->List iw
 |_,[]=>[]
 |n,x::xs=>⟨some n,x,none⟩::sq (n+1) xs
def sg(g:Nat)(b:Bool):Nat->List rB->List iw
 |_,[]=>[]
 |n,x::xs=>⟨some n,x,some (some g,b)⟩::sg g b (n+1) xs
def s0(x:rB):List iw:=[⟨none,x,none⟩]
def t0(n:Nat):Operand:=.tmp n
def i0(n:Int):Operand:=.const (.int .i64 n)
def U8:List Nat->List Operand
 |[]=>[]
 |n::ns=>.tmp n::U8 ns
def mv(n:Nat):rB:=.mv (.tmp n)
def mi(n:Int):rB:=.mv (.const (.int .i64 n))
def mb(b:Bool):rB:=.mv (.const (.bool b))
def ld(n:Nat):rB:=.load 1 false (.tmp n)
def la(e n:Nat):rB:=.load e true (.tmp n)
def fa(o n:Nat):rB:=.OV o (.tmp n)
def cf(f:Nat)(ns:List Nat):rB:=.me f (U8 ns)
def pa(a b:Nat):rB:=.pick (.tmp a) (.tmp b) (.const (.bool false))
def po(a b:Nat):rB:=.pick (.tmp a) (.const (.bool true)) (.tmp b)
def bn(o:BinOp)(a b:Nat):rB:=.bin o (.tmp a) (.tmp b)
def bi(o:BinOp)(a:Nat)(n:Int):rB:=.bin o (.tmp a) (.const (.int .i64 n))
def nt(n:Nat):rB:=.un .not (.tmp n)
def ln(n:Nat):rB:=.len (.tmp n)
def ex(n i:Nat):rB:=.ext (.tmp n) i
def ix(e a b:Nat):rB:=.tg e (.tmp a) (.tmp b)
def bo(d t n:Nat):rB:=.box d t (.tmp n)
def ap(d t e b x y:Nat):rB:=.app d t e b (.tmp x) (.tmp y)
def sr(n a b:Nat):rB:=.store n (.tmp a) (.tmp b)
theorem ZT{n:Nat}:sq n []=[]:=(rfl)
theorem ZS{n:Nat}{x:rB}{xs:List rB}:sq n (x::xs)=⟨some n,x,none⟩::sq (n+1) xs:=(rfl)
theorem ZR{g:Nat}{b:Bool}{n:Nat}:sg g b n []=[]:=(rfl)
theorem ZQ{g:Nat}{b:Bool}{n:Nat}{x:rB}{xs:List rB}:sg g b n (x::xs)=⟨some n,x,some (some g,b)⟩::sg g b (n+1) xs:=(rfl)
theorem ZP{x:rB}:s0 x=[⟨none,x,none⟩]:=(rfl)
theorem ZX{n:Nat}:t0 n=.tmp n:=(rfl)
theorem Zi{n:Int}:i0 n=.const (.int .i64 n):=(rfl)
theorem X8:U8 []=[]:=(rfl)
theorem X7{n:Nat}{ns:List Nat}:U8 (n::ns)=.tmp n::U8 ns:=(rfl)
theorem ZB{n:Nat}:mv n=.mv (.tmp n):=(rfl)
theorem Zu{n:Int}:mi n=.mv (.const (.int .i64 n)):=(rfl)
theorem Zt{b:Bool}:mb b=.mv (.const (.bool b)):=(rfl)
theorem Zo{n:Nat}:ld n=.load 1 false (.tmp n):=(rfl)
theorem Zn{e n:Nat}:la e n=.load e true (.tmp n):=(rfl)
theorem Yt{o n:Nat}:fa o n=.OV o (.tmp n):=(rfl)
theorem Yr{f:Nat}{ns:List Nat}:cf f ns=.me f (U8 ns):=(rfl)
theorem ZG{a b:Nat}:pa a b=.pick (.tmp a) (.tmp b) (.const (.bool false)):=(rfl)
theorem ZH{a b:Nat}:po a b=.pick (.tmp a) (.const (.bool true)) (.tmp b):=(rfl)
theorem Yp{o:BinOp}{a b:Nat}:bn o a b=.bin o (.tmp a) (.tmp b):=(rfl)
theorem Yn{o:BinOp}{a:Nat}{n:Int}:bi o a n=.bin o (.tmp a) (.const (.int .i64 n)):=(rfl)
theorem ZD{n:Nat}:nt n=.un .not (.tmp n):=(rfl)
theorem Zr{n:Nat}:ln n=.len (.tmp n):=(rfl)
theorem Ys{n i:Nat}:ex n i=.ext (.tmp n) i:=(rfl)
theorem Zm{e a b:Nat}:ix e a b=.tg e (.tmp a) (.tmp b):=(rfl)
theorem Yq{d t n:Nat}:bo d t n=.box d t (.tmp n):=(rfl)
theorem Ym{d t e b x y:Nat}:ap d t e b x y=.app d t e b (.tmp x) (.tmp y):=(rfl)
theorem ZU{n a b:Nat}:sr n a b=.store n (.tmp a) (.tmp b):=(rfl)
attribute [go_sem] ZT ZS ZR ZQ ZP ZX Zi X8 X7 ZB Zu Zt Zo Zn Yt Yr ZG ZH Yp Yn ZD Zr Ys Zm Yq Ym ZU
class iH {α:Type} (x:Option α) (Q:outParam (α->Prop)):Prop where
 c:∀{r:α},x=some r->Q r
def OW{α β:Type}(x:Option α)(K:α->Option β)(r:β):Prop:=x.bind K=some r
def Z3{α:Type}(c:Bool)(a b:Option α)(r:α):Prop:=(if c=true then a else b)=some r
def Z4{α:Type}(p:Prop)(a:Option α)(r:α):Prop:=p/\a=some r
theorem toB{α β:Type}{x:Option α}{K:α->Option β}{r:β}(h:x.bind K=some r):OW x K r:=h
theorem toI{α:Type}{c:Bool}{a b:Option α}{r:α}(h:(if c=true then a else b)=some r):Z3 c a b r:=h
theorem toN{α:Type}{p:Prop}[Decidable p]{a:Option α}{r:α}(h:(if p then a else none)=some r):Z4 p a r:=rj h
theorem toE{α:Type}{x r:α}(h:some x=some r):x=r:=cZ h
theorem toF{α:Type}{r:α}(h:none=some r):False:=by cases h
theorem it{α:Type}{c:Bool}{a b:Option α}{r:α}{p q1 q2:Prop}(h:Z3 c a b r)(k1:c=true->a=some r->q1)(k2:c=false->b=some r->q2)
 (e1:c=true->p=q1:=by intro hc;(try simp only[aq,aQ,bQ,aK,Nat.reduceAdd]at hc);first|((conv=>lhs;simp(maxSteps:=1000000) (disch:=omega)only[go_sem,kz,kr,lO,lM,bG,aV,bh,Nat.reduceAdd,Nat.reduceSub,Nat.reduceLeDiff,Nat.reduceEqDiff,Nat.reduceLT,Int.reduceToNat,reduceIte,reduceCtorEq,hc])<;>rfl)|rfl)
 (e2:c=false->p=q2:=by intro hc;(try simp only[aq,aQ,bQ,aK,Nat.reduceAdd]at hc);first|((conv=>lhs;simp(maxSteps:=1000000) (disch:=omega)only[go_sem,kz,kr,lO,lM,bG,aV,bh,Nat.reduceAdd,Nat.reduceSub,Nat.reduceLeDiff,Nat.reduceEqDiff,Nat.reduceLT,Int.reduceToNat,reduceIte,reduceCtorEq,hc])<;>rfl)|rfl):p:=
 (Cx h).elim (fun h=>(e1 h.1).symm▸k1 h.1 h.2) fun h=>(e2 h.1).symm▸k2 h.1 h.2
theorem Gq{ρ:Nat->Option Nat}{id e n:Nat}{ds:List D}:AV.jW ρ (AV.mT id ds (.kL e id n))=AV.mT id ds (.kL e id n):=by
 simp only[AV.mT,aB];split<;>rfl
attribute [go_sem] Gq
def Rt(p:Prop):Prop:=p
theorem ZO{c x:Prop}(h:c):Rt (c/\x)=Rt x:=propext ⟨fun k=>k.2,fun k=>⟨h,k⟩⟩
theorem pz{p q:Prop}(hq:q)(e:p=q:=by first|((conv=>lhs;change Rt _;simp(maxSteps:=1000000) (disch:=omega)only[ZO,go_sem,kz,kr,lO,lM,bG,aV,bh,Nat.reduceAdd,Nat.reduceSub,Nat.reduceLeDiff,Nat.reduceEqDiff,Nat.reduceLT,Int.reduceToNat,reduceIte,reduceCtorEq];delta Rt)<;>rfl)|rfl):p:=e▸hq
theorem ndN{α:Type}{c p q:Prop}{a:Option α}{r:α}(h:Z4 c a r)(k:c->a=some r->q)
 (e:c->p=q:=by intro hp;(try(have hq':=hp;simp only[aq,aQ,bQ,aK,Nat.reduceAdd]at hq'));first|((conv=>lhs;change Rt _;simp(maxSteps:=1000000) (disch:=omega)only[ZO,go_sem,kz,kr,lO,lM,bG,aV,bh,Nat.reduceAdd,Nat.reduceSub,Nat.reduceLeDiff,Nat.reduceEqDiff,Nat.reduceLT,Int.reduceToNat,reduceIte,reduceCtorEq];delta Rt)<;>rfl)|rfl):p:=(e h.1).symm▸(k h.1 h.2)
theorem jG{α:Type}{c p q:Prop}{_:Decidable c}{a:Option α}{r:α}(h:(if c then a else none)=some r)(k:c->a=some r->q)
 (e:c->p=q:=by intro hp;(try(have hq':=hp;simp only[aq,aQ,bQ,aK,Nat.reduceAdd]at hq'));first|((conv=>lhs;change Rt _;simp(maxSteps:=1000000) (disch:=omega)only[ZO,go_sem,kz,kr,lO,lM,bG,aV,bh,Nat.reduceAdd,Nat.reduceSub,Nat.reduceLeDiff,Nat.reduceEqDiff,Nat.reduceLT,Int.reduceToNat,reduceIte,reduceCtorEq];delta Rt)<;>rfl)|rfl):p:=(e (rj h).1).symm▸(k (rj h).1 (rj h).2)
section
variable{α β:Type}{P:Program}{k0 f:Nat}{args env:List AV}{s:gU}{d:Option Nat}{R:List AV->gU->Prop}{F:List (List Nat×List Nat)->List AV->gU->Prop}{ms:List iw}{acc:List (List Nat×List Nat)}{foot:List Nat}
 {x:Option α} {K:α->Option β} {r:β} {q:α->Prop}
theorem rC{dz:List D}{y:α->D}[i:iH x fun a=>jF P f dz (y a)](h:OW x K r)(hk:∀a,x=some a->K a=some r->q a)
 (e:∀a,R (iI d env (.d (y a))) s=q a:=by intro a;first|((conv=>lhs;simp(maxSteps:=1000000) (disch:=omega)only[go_sem,kz,kr,lO,lM,bG,aV,bh,Nat.reduceAdd,Nat.reduceSub,Nat.reduceLeDiff,Nat.reduceEqDiff,Nat.reduceLT,Int.reduceToNat,reduceIte,reduceCtorEq])<;>rfl)|rfl) (ha:iG (args.map fun x=>x.jW (nQ [])) (dz.map .d):=by exact oG):lK P k0 f args env s d R:=
 let⟨a,h1,h2⟩:=bind_some h;My (i.c h1) ha ((e a).symm▸hk a h1 h2)
theorem QI{dz:List D}{y:α->List D}[i:iH x fun a=>oF P f dz (y a)](h:OW x K r)(hk:∀a,x=some a->K a=some r->q a)
 (e:∀a,R (iI d env (.lE ((y a).map .d))) s=q a:=by intro a;first|((conv=>lhs;simp(maxSteps:=1000000) (disch:=omega)only[go_sem,kz,kr,lO,lM,bG,aV,bh,Nat.reduceAdd,Nat.reduceSub,Nat.reduceLeDiff,Nat.reduceEqDiff,Nat.reduceLT,Int.reduceToNat,reduceIte,reduceCtorEq])<;>rfl)|rfl) (ha:iG (args.map fun x=>x.jW (nQ [])) (dz.map .d):=by exact oG):lK P k0 f args env s d R:=
 let⟨a,h1,h2⟩:=bind_some h;Ke (i.c h1) ha ((e a).symm▸hk a h1 h2)
theorem dC{dz:List D}{y:α->D}[i:iH x fun a=>jF P f dz (y a)](h:OW x K r)(hk:∀a,x=some a->K a=some r->q a)
 (e:∀a,uM P k0 F ms ((foot,[])::acc) (iI d env (.d (y a))) s=q a:=by intro a;first|((conv=>lhs;simp(maxSteps:=1000000) (disch:=omega)only[go_sem,kz,kr,lO,lM,bG,aV,bh,Nat.reduceAdd,Nat.reduceSub,Nat.reduceLeDiff,Nat.reduceEqDiff,Nat.reduceLT,Int.reduceToNat,reduceIte,reduceCtorEq])<;>rfl)|rfl) (ha:iG (args.map fun x=>x.jW (nQ [])) (dz.map .d):=by exact oG):nO P k0 F ms acc foot d env s f args:=
 let⟨a,h1,h2⟩:=bind_some h;Mu (i.c h1) ha ((e a).symm▸hk a h1 h2)
theorem Z7{dz:List D}{y:α->List D}[i:iH x fun a=>oF P f dz (y a)](h:OW x K r)(hk:∀a,x=some a->K a=some r->q a)
 (e:∀a,uM P k0 F ms ((foot,[])::acc) (iI d env (.lE ((y a).map .d))) s=q a:=by intro a;first|((conv=>lhs;simp(maxSteps:=1000000) (disch:=omega)only[go_sem,kz,kr,lO,lM,bG,aV,bh,Nat.reduceAdd,Nat.reduceSub,Nat.reduceLeDiff,Nat.reduceEqDiff,Nat.reduceLT,Int.reduceToNat,reduceIte,reduceCtorEq])<;>rfl)|rfl) (ha:iG (args.map fun x=>x.jW (nQ [])) (dz.map .d):=by exact oG):nO P k0 F ms acc foot d env s f args:=
 let⟨a,h1,h2⟩:=bind_some h;Kc (i.c h1) ha ((e a).symm▸hk a h1 h2)
theorem vf(pr nw:List gv){dz:List AV}{s1:gU}{t:α->gU}{y:α->AV}[i:iH x fun a=>h_ P f dz s1 pr.length fun x s'=>x=y a/\s'=t a](h:OW x K r)(hk:∀a,x=some a->K a=some r->q a)
 (e:∀a,R (iI d env ((y a).jW (lz (pr++nw)))) (pO s (t a) (pr++nw) (pr++nw))=q a:=by intro a;first|((conv=>lhs;simp(maxSteps:=1000000) (disch:=omega)only[go_sem,kz,kr,lO,lM,bG,aV,bh,Nat.reduceAdd,Nat.reduceSub,Nat.reduceLeDiff,Nat.reduceEqDiff,Nat.reduceLT,Int.reduceToNat,reduceIte,reduceCtorEq])<;>rfl)|rfl)
 (h1:pr.map (·.1)=List.range pr.length:=by rfl) (h2:((pr++nw).map (·.1)).Nodup:=by decide) (h3:((pr++nw).map (·.2)).Nodup:=by decide)
 (h4:∀p∈nw,sat s p.2=.dead/\k0<=p.2:=by simp[sat]) (ha:iG (args.map fun x=>x.jW (nQ pr)) dz:=by exact oG) (hs:kj (kR s pr pr) s1:=by exact oG):lK P k0 f args env s d R:=
 let⟨a,g1,g2⟩:=bind_some h;En pr nw (i.c g1) h1 h2 h3 h4 ha hs ((e a).symm▸hk a g1 g2)
theorem PM(pr nw:List gv){dz:List AV}{s1:gU}{t:α->gU}{y:α->AV}[i:iH x fun a=>h_ P f dz s1 pr.length fun x s'=>x=y a/\s'=t a](h:OW x K r)(hk:∀a,x=some a->K a=some r->q a)
 (e:∀a,uM P k0 F ms (((pr++nw).map (·.2)++foot,(Gj (t a) (pr++nw) (pr++nw)).map (·.1))::acc) (iI d env ((y a).jW (lz (pr++nw)))) (pP s (Gj (t a) (pr++nw) (pr++nw)))=q a:=by intro a;first|((conv=>lhs;simp(maxSteps:=1000000) (disch:=omega)only[go_sem,kz,kr,lO,lM,bG,aV,bh,Nat.reduceAdd,Nat.reduceSub,Nat.reduceLeDiff,Nat.reduceEqDiff,Nat.reduceLT,Int.reduceToNat,reduceIte,reduceCtorEq])<;>rfl)|rfl)
 (h1:pr.map (·.1)=List.range pr.length:=by rfl) (h2:((pr++nw).map (·.1)).Nodup:=by decide) (h3:((pr++nw).map (·.2)).Nodup:=by decide)
 (h4:∀p∈nw,sat s p.2=.dead/\k0<=p.2:=by simp[sat]) (ha:iG (args.map fun x=>x.jW (nQ pr)) dz:=by exact oG) (hs:kj (kR s pr pr) s1:=by exact oG):nO P k0 F ms acc foot d env s f args:=
 let⟨a,g1,g2⟩:=bind_some h;PF pr nw (i.c g1) h1 h2 h3 h4 ha hs ((e a).symm▸hk a g1 g2)
end
theorem nr{p:Prop}(h:p:=by repeat' first
 |refine jy (by kernel_rfl) (iE ?_)
 |refine xN gN (pz ?_)
 |(with_reducible replace h:=toE h);subst h;first|(refine⟨_,rfl,ij.U5 ?_ ?_⟩<;>(first|(simp only[go_sem,gS,aP,bI,bJ,aG,Nat.reduceAdd,Nat.reduceSub,Nat.reduceLeDiff,Nat.reduceEqDiff,Nat.reduceLT,reduceIte,reduceCtorEq];done)|((try simp only[go_sem,gS,aP,bI,bJ,aG,Nat.reduceAdd,Nat.reduceSub,Nat.reduceLeDiff,Nat.reduceEqDiff,Nat.reduceLT,reduceIte,reduceCtorEq];repeat' (first|exact AV.le_refl _|refine And.intro ?_ ?_|refine AV.xJ ?_|refine AV.uY ?_|refine AV.zc ?_|refine AV.wI (DL.agg ?_)|exact TH|exact By|refine TG ?_ ?_|refine yE ?_ ?_|exact TE|refine TD ?_ ?_|exact qX (AV.wI DL.nil) _|exact D.le_refl _|exact wD|exact qW|refine wC ?_|(simp only[go_sem,gS,aP,bI,bJ,aG,Nat.reduceAdd,Nat.reduceSub,Nat.reduceLeDiff,Nat.reduceEqDiff,Nat.reduceLT,reduceIte,reduceCtorEq];done)|refine pQ.append (pQ.refl _) ?_|refine AV.sO ?_|refine AV.CC ?_|omega));done)))|(first|(simp only[go_sem,gS,aP,bI,bJ,aG,Nat.reduceAdd,Nat.reduceSub,Nat.reduceLeDiff,Nat.reduceEqDiff,Nat.reduceLT,reduceIte,reduceCtorEq];done)|((try simp only[go_sem,gS,aP,bI,bJ,aG,Nat.reduceAdd,Nat.reduceSub,Nat.reduceLeDiff,Nat.reduceEqDiff,Nat.reduceLT,reduceIte,reduceCtorEq];repeat' (first|exact AV.le_refl _|refine And.intro ?_ ?_|refine AV.xJ ?_|refine AV.uY ?_|refine AV.zc ?_|refine AV.wI (DL.agg ?_)|exact TH|exact By|refine TG ?_ ?_|refine yE ?_ ?_|exact TE|refine TD ?_ ?_|exact qX (AV.wI DL.nil) _|exact D.le_refl _|exact wD|exact qW|refine wC ?_|(simp only[go_sem,gS,aP,bI,bJ,aG,Nat.reduceAdd,Nat.reduceSub,Nat.reduceLeDiff,Nat.reduceEqDiff,Nat.reduceLT,reduceIte,reduceCtorEq];done)|refine pQ.append (pQ.refl _) ?_|refine AV.sO ?_|refine AV.CC ?_|omega));done))|(refine⟨[],by simp,?_,?_⟩<;>(first|(simp only[go_sem,gS,aP,bI,bJ,aG,Nat.reduceAdd,Nat.reduceSub,Nat.reduceLeDiff,Nat.reduceEqDiff,Nat.reduceLT,reduceIte,reduceCtorEq];done)|((try simp only[go_sem,gS,aP,bI,bJ,aG,Nat.reduceAdd,Nat.reduceSub,Nat.reduceLeDiff,Nat.reduceEqDiff,Nat.reduceLT,reduceIte,reduceCtorEq];repeat' (first|exact AV.le_refl _|refine And.intro ?_ ?_|refine AV.xJ ?_|refine AV.uY ?_|refine AV.zc ?_|refine AV.wI (DL.agg ?_)|exact TH|exact By|refine TG ?_ ?_|refine yE ?_ ?_|exact TE|refine TD ?_ ?_|exact qX (AV.wI DL.nil) _|exact D.le_refl _|exact wD|exact qW|refine wC ?_|(simp only[go_sem,gS,aP,bI,bJ,aG,Nat.reduceAdd,Nat.reduceSub,Nat.reduceLeDiff,Nat.reduceEqDiff,Nat.reduceLT,reduceIte,reduceCtorEq];done)|refine pQ.append (pQ.refl _) ?_|refine AV.sO ?_|refine AV.CC ?_|omega));done)))
 |(with_reducible exact(toF h).elim)
 |(with_reducible replace h:=toI h);refine it h (fun hc h=>?_) (fun hc h=>?_)
 |(with_reducible replace h:=toN h);refine ndN h (fun hp h=>?_)
 |(with_reducible replace h:=toB h);first|refine rC h (fun r hr h=>?_)|refine QI h (fun r hr h=>?_)|refine dC h (fun r hr h=>?_)|refine Z7 h (fun r hr h=>?_)
 |(with_reducible replace h:=jg h hb3)
 |(with_reducible replace h:=jg h hb2)
 |(with_reducible replace h:=jg h hb1)
 |(exfalso;simp only[aA,ct]at *;omega)):p:=h
theorem iT{α:Type}{c:Bool}{a b:Option α}{r:α}{p q1:Prop}(h:(if c=true then a else b)=some r)(k1:c=true->a=some r->q1)
 (e1:c=true->p=q1:=by intro hc;(try simp only[aq,aQ,bQ,aK,Nat.reduceAdd]at hc);first|((conv=>lhs;simp(maxSteps:=1000000) (disch:=omega)only[go_sem,kz,kr,lO,lM,bG,aV,bh,Nat.reduceAdd,Nat.reduceSub,Nat.reduceLeDiff,Nat.reduceEqDiff,Nat.reduceLT,Int.reduceToNat,reduceIte,reduceCtorEq,hc])<;>rfl)|rfl)
 (k2:c=false->b=some r->p:=by intro hc h;(try simp only[aq,aQ,bQ,aK,Nat.reduceAdd]at hc);refine qz hc ?_;exact nr):p:=
 (Cx h).elim (fun h=>(e1 h.1).symm▸k1 h.1 h.2) fun h=>k2 h.1 h.2
theorem iF{α:Type}{c:Bool}{a b:Option α}{r:α}{p q2:Prop}(h:(if c=true then a else b)=some r)(k2:c=false->b=some r->q2)
 (e2:c=false->p=q2:=by intro hc;(try simp only[aq,aQ,bQ,aK,Nat.reduceAdd]at hc);first|((conv=>lhs;simp(maxSteps:=1000000) (disch:=omega)only[go_sem,kz,kr,lO,lM,bG,aV,bh,Nat.reduceAdd,Nat.reduceSub,Nat.reduceLeDiff,Nat.reduceEqDiff,Nat.reduceLT,Int.reduceToNat,reduceIte,reduceCtorEq,hc])<;>rfl)|rfl)
 (k1:c=true->a=some r->p:=by intro hc h;(try simp only[aq,aQ,bQ,aK,Nat.reduceAdd]at hc);refine qz hc ?_;exact nr):p:=
 (Cx h).elim (fun h=>k1 h.1 h.2) fun h=>(e2 h.1).symm▸k2 h.1 h.2
theorem kT{P:Program}{k:Nat}{Q:Post}{env:List AV}{s:gU}{x:gV}{σ β:Type}{f:σ->Option (σ⊕β)}{s0:σ}{b:β}(hb:g_ f s0=some b)
 (ws:List Nat) (vs:σ->List (Nat×AV)) (S:σ->gU)
 (round:∀p t,f p=some t->(∀b',t=.inr b'->b'=b)->ng P k x (wj (fun env' s'=>∃p',t=.inl p'/\ij k env' s' (nX (pM env ws) (vs p')) (S p')) Q)
  (nX (pM env ws) (vs p)) (S p)) (hw:ij k env s (nX (pM env ws) (vs s0)) (S s0):=by(try dsimp only);exact wk):ng P k (.loop x) Q env s:=sW hb ws vs S hw round
theorem Ie{s:gU}{id id' i:Nat}{ob:Ob}:sat (sset (iW id' s) id ob) i=if i=id then ob else if i=id' then .dead else(sat s i).kill id':=by rw[jv,oC]
def Na:D->Bool
 |.lit _=>true
 |_=>false
def zD:D->Bool
 |.lit _=>true
 |.sl _ _ _=>true
 |_=>false
def yO:D->AV
 |.sl e nl xs=>.dp (.sl e nl xs)
 |x=>.d x
theorem GU{β:gZ}{O:Own}{w:World}{x:D}{v:Value}{bs:List Nat}(hx:zD x=true)(h:NX β O w (yO x) v bs):NV w x v bs:=by
 cases x with
 |any=>cases hx
 |agg cs=>cases hx
 |lit u=>
  obtain⟨h1,h2⟩:=h;have h1:D.ok O w (.lit u) v:=by
   have h1:AV.ok β O w (.d (.lit u)) v:=h1;simpa only[AV.ok]using h1
  have h1:v=u/\one u=true:=by simpa only[D.ok]using h1
  exact⟨h1.1,h1.2,h2⟩
 |sl e nl xs=>exact h
theorem BS{β:gZ}{O:Own}{w:World}:∀{cs:List D}{vs r:List Value}{bs:List Nat},(∀x∈cs,zD x=true)->vs.length=cs.length->rD β O w (cs.map yO) (vs++r) bs->NC w cs vs bs
 |[],vs,r,bs,_,hl,h=>by
  simp only[dy,rD]at h;simp only[NC];exact⟨bP.1 hl,h⟩
 |c::cs,[],r,bs,_,hl,_=>by simp at hl
 |c::cs,u::us,r,bs,hc,hl,h=>by
  simp only[aN,bZ,rD]at h;obtain⟨v,q,b1,b2,h1,rfl,h3,h4⟩:=h;cases h1;simp only[NC];exact⟨u,us,b1,b2,rfl,rfl,GU (hc c (by simp)) h3,BS (fun x hx=>hc x (by simp[hx])) (by simpa using hl) h4⟩
theorem BT{β:gZ}{O:Own}{w:World}{e:Nat}:∀{xs:List D}{vs:List Value}{bs:List Nat},(∀x∈xs,(gT x).length=e)->(∀x∈xs,∀c∈gT x,zD c=true)->
 rD β O w ((xs.flatMap gT).map yO) vs bs->NR w e xs vs bs
 |[],vs,bs,_,_,h=>by simpa[rD,NR]using h
 |x::xs,vs,bs,he,hc,h=>by
  rw[cY,aP]at h;obtain⟨h1,b1,b2,rfl,h2,h3⟩:=vE h;rw[aK]at h1 h3;have hlen:=he x (by simp);have hsp:vs=vs.take e++vs.drop e:=(cr e vs).symm;have hle:e<=vs.length:=by omega
  have ih:=BT (xs:=xs) (fun y hy=>he y (by simp[hy])) (fun y hy=>hc y (by simp[hy])) h3;rw[hlen]at ih;have hnc:NC w (gT x) (vs.take e) b1:=BS (r:=vs.drop e) (hc x (by simp)) (by rw[ck,hlen];omega) (by rw[cr];exact h2);cases x with
  |agg cs=>
   simp only[NR];exact⟨vs.take e,vs.drop e,b1,b2,hsp,by rw[ck];omega,rfl,hnc,ih⟩
  |any=>exact absurd (hc .any (by simp) .any (by simp[gT])) (by simp[zD])
  |lit u=>
   simp only[gT,aQ,bQ]at hlen;subst hlen;simp only[gT,NC]at hnc;obtain⟨v,r,c1,c2,g1,rfl,g3,g4,rfl⟩:=hnc;simp only[NR];exact⟨v,vs.drop 1,c1,b2,by
    conv=>lhs;rw[hsp]
    rw[g1,g4];rfl,by trivial,by simp,g3,ih⟩
  |sl e' nl ys=>
   simp only[gT,aQ,bQ]at hlen;subst hlen;simp only[gT,NC]at hnc;obtain⟨v,r,c1,c2,g1,rfl,g3,g4,rfl⟩:=hnc;simp only[NR];exact⟨v,vs.drop 1,c1,b2,by
    conv=>lhs;rw[hsp]
    rw[g1,g4];rfl,by trivial,by simp,g3,ih⟩
theorem NK{O:Own}{w:World}{b:Nat}{vs:Array Value}{t:Nat}(hh:w.heap[b]?=some (.cells vs t (0,0))):∀{xs:List D}{o:Nat},(∀x∈xs,Na x=true)->D.row O w b o 1 xs->NR w 1 xs (vs.toList.drop o) []
 |[],_,_,_=>by simp[NR]
 |x::xs,o,hl,h=>by
  cases x with
  |lit u=>
   simp only[D.row]at h;obtain⟨⟨v,_,h1,h2⟩,h3⟩:=h;simp only[D.ok]at h2;obtain⟨rfl,hone⟩:=h2;have h4:=(h1 0 v rfl).1;simp only[World.cell?,hh,cx,aj,aF,dg]at h4;have hlt:o<vs.toList.length:=by simpa using(aO.1 h4).1
   simp only[NR];refine⟨v,vs.toList.drop (o+1),[],[],?_,by trivial,rfl,?_,NK hh (fun y hy=>hl y (by simp[hy])) h3⟩
   ·rw[aE hlt];congr 1;have:=(aO.1 h4).2;simpa using this
   ·simp only[NV];exact⟨by trivial,hone,by trivial⟩
  |any=>exact absurd (hl .any (by simp)) (by simp[Na])
  |agg cs=>exact absurd (hl (.agg cs) (by simp)) (by simp[Na])
  |sl e nl ys=>exact absurd (hl (.sl e nl ys) (by simp)) (by simp[Na])
def jw(ds:List D):List AV:=(ds.flatMap gT).map yO
theorem zl{x:D}{xs:List D}:jw (x::xs)=(gT x).map yO++jw xs:=by simp[jw]
theorem lu{ρ:Nat->Option Nat}:∀{ds:List D},AV.iz ρ (jw ds)=jw ds:=fun{ds}=>by
 rw[jJ];unfold jw;rw[eN];refine eL fun x _=>?_
 cases x<;>rfl
theorem tZ{ρ:Nat->Option Nat}:∀{xs ys:List AV},AV.iz ρ (xs++ys)=AV.iz ρ xs++AV.iz ρ ys:=fun{xs ys}=>by simp only[jJ,aP]
theorem D4{ρ:Nat->Option Nat}{xs:List AV}{j:Nat}{x:AV}:AV.iz ρ (xs.set j x)=(AV.iz ρ xs).set j (x.jW ρ):=by simp only[jJ,fN]
theorem Ug{C:Ctx}{β:gZ}{s:gU}{w:World}(h:Inv C β s w){id' e:Nat}{xs:List D}(hs:sat s id'=.lN e xs.length (jw xs))
 (he:∀x∈xs,(gT x).length=e) (hc:∀x∈xs,∀c∈gT x,zD c=true) (v:Value) (hv:AV.ok β (C.gX β s) w (.kL e id' xs.length) v):
 ∃B:List Nat,B.Nodup/\(∀b∈B,gR β s id' b/\∃vs t',w.heap[b]?=some (.cells vs t' (0,0)))/\NV w (.sl e none xs) v B:=by
 have ho:=h.obs id';rw[hs]at ho;obtain⟨u,bs,hb,h0,hl,htok⟩:=ho;simp only[AV.ok]at hv;obtain⟨p,q,h1,_,h3,_⟩:=hv;rw[hb]at h1;obtain⟨rfl,rfl⟩:=h1;have hvu:v=u:=h3 rfl;subst hvu;rcases htok with⟨⟨a,rfl⟩,k2,rfl⟩|⟨b,cap',vs,t,rfl,k5,k6,k7,k8,k9,kc,k10,k11⟩
 ·have hx:xs=[]:=bP.1 k2;subst hx;refine⟨[],by simp,by simp,?_⟩;simp only[NV];exact⟨a,0,rfl,⟨aC _,gN⟩,trivial,.inl (by simp)⟩
 ·refine⟨b::bs,k10,fun q hq=>?_,?_⟩
  ·rcases bL.1 hq with rfl|hq
   ·exact⟨by unfold gR;rw[hs];exact⟨_,bs,hb,.inl ⟨cap',rfl,kc⟩⟩,vs,t,k5⟩
   ·exact⟨by unfold gR;rw[hs];exact⟨_,bs,hb,.inr hq⟩,h0 q hq⟩
  ·simp only[NV];exact⟨_,cap',rfl,⟨k7,k8⟩,trivial,.inr ⟨b,vs,t,bs,rfl,rfl,k5,k6,k9,BT he hc k11⟩⟩
def uw(s:gU)(id' e':Nat)(xs:List D):Prop:=sat s id'=.lN e' xs.length (jw xs)/\(∀x∈xs,(gT x).length=e')/\∀x∈xs,∀c∈gT x,zD c=true
theorem uw.nv{C:Ctx}{β:gZ}{s:gU}{w:World}(h:Inv C β s w){id' e':Nat}{xs:List D}(hw:uw s id' e' xs)(v:Value)(hv:AV.ok β (C.gX β s) w (.kL e' id' xs.length) v):
 ∃B:List Nat,B.Nodup/\(∀b∈B,gR β s id' b/\∃vs t',w.heap[b]?=some (.cells vs t' (0,0)))/\NV w (.sl e' none xs) v B:=Ug h hw.1 hw.2.1 hw.2.2 v hv
theorem Ju{β:gZ}{s:gU}{id e n b:Nat}{cs:List AV}(hs:sat s id=.lN e n cs)(hb:gR β s id b)(o:Nat):own β s b o:=⟨id,by unfold gR at hb;rw[hs]at hb⊢;exact hb⟩
theorem K4{α:Type}{cs:List α}{j:Nat}{x y:α}(hj:cs[j]?=some x):cs=cs.take j++x::cs.drop (j+1)/\cs.set j y=cs.take j++y::cs.drop (j+1)/\(cs.take j).length=j:=by
 obtain⟨hlt,rfl⟩:=aL.1 hj;refine⟨?_,cV .. |>.trans (ah hlt),by simp;omega⟩;rw[<-aE hlt,cr]
theorem St.OY{C:Ctx}{β:gZ}{env:List AV}{s:gU}{a:Act}{w:World}(h:St C β env s a w){id id':Nat}(hne:id≠id')(hk:C.k<=id'){e n j e':Nat}{cs:List AV}{xs':List D}
 (hs:sat s id=.lN e n cs) (hj:cs[j]?=some (.kL e' id' xs'.length)) (hw:uw s id' e' xs'):
 ∃β',St C β' (AV.iz (ic id') env) (sset (iW id' s) id (.lN e n ((AV.iz (ic id') cs).set j (.dp (.sl e' none xs'))))) a w:=by
 have hnv:=hw.nv h.inv;generalize hd:D.sl e' none xs'=d at hnv⊢;obtain⟨hsp,hsp2,hpl0⟩:=K4 (y:=.dp d) hj;have hset:(AV.iz (ic id') cs).set j (.dp d)=AV.iz (ic id') (cs.take j)++ .dp d::AV.iz (ic id') (cs.drop (j+1)):=by
  have e1:=bX (AV.iz (ic id')) hsp2;rw[D4,tZ]at e1;simpa[AV.iz,AV.jW]using e1
 rw[hset];generalize hpre:cs.take j=pre at hsp hpl0⊢;generalize hpost:cs.drop (j+1)=post at hsp⊢;subst hsp;have ho:=h.inv.obs id;rw[hs]at ho;obtain⟨u,bs,hb,h0,hl,htok⟩:=ho;rcases htok with⟨_,h1,_⟩|⟨b,cap,vs,t,rfl,k5,k6,k7,k8,k9,kc,k10,k11⟩
 ·rw[h1]at hl;simp at hl
 obtain⟨hpl,b1,b2,hbs,hn1,hn2⟩:=vE k11;simp only[rD]at hn2;obtain⟨v,r,c1,c2,hvr,hb2,hx,hn3⟩:=hn2;obtain⟨hxo,hc1⟩:AV.ok β (C.gX β s) w (.kL e' id' xs'.length) v/\c1=[]:=hx;subst hc1;rw[bh]at hb2;subst hb2;subst hbs;obtain⟨B,hB1,hB2,hB3⟩:=hnv v hxo;have hm:gR β s id b:=by unfold gR;rw[hs];exact⟨_,_,hb,.inl ⟨cap,rfl,kc⟩⟩
 have hmb:∀q∈b1++b2,gR β s id q:=fun q hq=>by unfold gR;rw[hs];exact⟨_,_,hb,.inr hq⟩
 have hdis:∀q∈B,¬gR β s id q:=fun q hq h2=>hne (h.inv.inj id id' q h2 (hB2 q hq).1)
 let β':gZ:=gY (gY β id' .no) id (.od (.slice (some ⟨b,0,none⟩) n cap) n (b1++(B++b2)));let s':gU:=sset (iW id' s) id (.lN e n (AV.iz (ic id') pre++ .dp d::AV.iz (ic id') post));have hβid:β' id=.od (.slice (some ⟨b,0,none⟩) n cap) n (b1++(B++b2)):=by simp[β',gY]
 have hβo:∀i,i≠id->i≠id'->β' i=β i:=fun i h1 h2=>by simp[β',gY,h1,h2]
 have sat':∀i,sat s' i=if i=id then .lN e n (AV.iz (ic id') pre++ .dp d::AV.iz (ic id') post)else if i=id' then .dead else(sat s i).kill id':=fun i=>Ie
 have hblk:∀i q,gR β' s' i q->gR β s i q\/i=id/\q∈B:=by
  intro i q hq;unfold gR at hq;rw[sat']at hq;by_cases hi:i=id
  ·subst hi;rw[ah rfl]at hq;simp only at hq;obtain⟨v',q',h1,h2⟩:=hq;rw[hβid]at h1;cases h1;rcases h2 with⟨cap',h2,_⟩|h2
   ·simp at h2;rw[<-h2.1];exact .inl hm
   ·rcases aH.1 h2 with h2|h2
    ·exact .inl (hmb q (by simp[h2]))
    ·rcases aH.1 h2 with h2|h2
     ·exact .inr ⟨rfl,h2⟩
     ·exact .inl (hmb q (by simp[h2]))
  ·rw[ak hi]at hq;by_cases hi':i=id'
   ·rw[ah hi']at hq;exact hq.elim
   ·rw[ak hi']at hq;refine .inl ?_;unfold gR;cases hsi:sat s i<;>rw[hsi]at hq<;>simpa[Ob.kill,hβo i hi hi']using hq
 have hown:∀q o,own β' s' q o->own β s q o:=by
  rintro q o ⟨i,ho⟩;rw[sat']at ho;by_cases hi:i=id
  ·subst hi;rw[ah rfl]at ho;simp only at ho;obtain⟨v',q',h1,h2⟩:=ho;rw[hβid]at h1;cases h1;rcases h2 with⟨cap',h2,_⟩|h2
   ·simp at h2;exact⟨i,by rw[hs];exact⟨_,_,hb,.inl ⟨cap,by rw[h2.1],kc⟩⟩⟩
   ·rcases aH.1 h2 with h2|h2
    ·exact⟨i,by rw[hs];exact⟨_,_,hb,.inr (by simp[h2])⟩⟩
    ·rcases aH.1 h2 with h2|h2
     ·exact Ju hw.1 (hB2 q h2).1 o
     ·exact⟨i,by rw[hs];exact⟨_,_,hb,.inr (by simp[h2])⟩⟩
  ·rw[ak hi]at ho;by_cases hi':i=id'
   ·rw[ah hi']at ho;exact ho.elim
   ·rw[ak hi']at ho;refine⟨i,?_⟩;cases hsi:sat s i<;>rw[hsi]at ho<;>simpa[Ob.kill,hβo i hi hi']using ho
 have hval:∀x v,AV.ok β (C.gX β s) w x v->AV.ok β' (C.gX β' s') w (x.jW (ic id')) v:=fun x v hx=>
  AV.iN (fun q o v hc hn=>⟨hc,fun hf=>hn (hf.imp (fun x=>x) (hown q o))⟩) (fun i=>by
   by_cases hi:i=id
   ·subst hi;rw[hβid];simp only[gY,ak hne];rw[hb];exact⟨_,_,_,rfl,aC _,fun _=>rfl⟩
   ·simp only[β'];simp only[gY,ak hi];exact .refl _) _ _ (AV.sP (β':=gY β id' .no) (fun i j hij=>by
  unfold ic at hij;split at hij
  ·cases hij
  ·cases hij;simp[gY, *]) x v hx)
 have hnone:β' id'=.no:=by simp[β',gY];exact fun h=>hne h.symm
 refine⟨β',h.defers,⟨h.inv.size,h.inv.io,h.inv.gl,h.inv.keep,h.inv.oE,fun q o ho=>h.inv.n_ q o (hown q o ho),fun i q hq=>?_,fun i hi=>?_,h.inv.low,fun i=>?_,fun i j q hi hj=>?_⟩,by rw[mA];exact h.len,fun i x hx=>?_⟩
 ·rcases hblk i q hq with h1|⟨_,h1⟩
  ·exact h.inv.qM i q h1
  ·exact h.inv.qM id' q (hB2 q h1).1
 ·have h1:=h.inv.pl i hi;by_cases hii:i=id
  ·subst hii;rw[hβid];rw[hb]at h1;exact h1.trans ⟨_,_,_,rfl,aC _,fun _=>rfl⟩
  ·rw[hβo i hii gN];exact h1
 ·show uu β' (C.gX β' s') w i (sat s' i);rw[sat'];by_cases hi:i=id
  ·subst hi;rw[ah rfl];refine⟨_,_,hβid,fun q hq=>?_,?_,.inr ⟨b,cap,vs,t,rfl,k5,k6,k7,k8,k9,kc,?_,?_⟩⟩
   ·rcases aH.1 hq with hq|hq
    ·exact h0 q (by simp[hq])
    ·rcases aH.1 hq with hq|hq
     ·exact(hB2 q hq).2
     ·exact h0 q (by simp[hq])
   ·rw[<-hl];simp[mA]
   ·have k10':=k10;rw[cu,cX]at k10';obtain⟨p1,p2,p3,p4⟩:=k10';rw[cu,cX,cX];refine⟨fun hq=>?_,p2,⟨hB1,p3,fun x hx y hy he=>hdis x hx (he▸hmb y (by simp[hy]))⟩,fun x hx y hy he=>?_⟩
    ·rcases aH.1 hq with hq|hq
     ·exact p1 (by simp[hq])
     ·rcases aH.1 hq with hq|hq
      ·exact hdis b hq hm
      ·exact p1 (by simp[hq])
    ·rcases aH.1 hy with hy|hy
     ·exact hdis y hy (he▸hmb x (by simp[hx]))
     ·exact p4 x hx y hy he
   ·have e1:=rD.imp (f:=AV.jW (ic id')) (β':=β') (O':=C.gX β' s') (w':=w) (fun x v=>nR (hval x v)) (fun _ _=>rfl) hn1;have e2:=rD.imp (f:=AV.jW (ic id')) (β':=β') (O':=C.gX β' s') (w':=w) (fun x v=>nR (hval x v)) (fun _ _=>rfl) hn3;rw[<-jJ]at e1 e2;have e3:rD β' (C.gX β' s') w (.dp d::AV.iz (ic id') post) (vs.toList.drop pre.length) (B++b2):=by
     rw[hvr];simp only[rD];exact⟨v,r,B,b2,rfl,rfl,hB3,e2⟩
    have e4:=wz (us:=vs.toList.take pre.length) (by rw[ck,mA];omega) (zz (vs:=vs.toList.take pre.length) e1 (by rw[mA,List.take_take,Nat.min_self])) e3;rwa [cr]at e4
  ·rw[ak hi];by_cases hi':i=id'
   ·rw[ah hi',hi'];exact hnone
   ·rw[ak hi'];have ho:=h.inv.obs i;cases hsi:sat s i with
    |dead=>rw[hsi]at ho;exact(hβo i hi hi').trans ho
    |obj t' cs=>
     rw[hsi]at ho;obtain⟨q,us,h1,h2,h3,h4⟩:=ho;refine⟨q,us,(hβo i hi hi').trans h1,h2,h3,h4.imp fun us' hu=>?_⟩;rw[jJ];exact BH hval hu
    |tok t' e2 n'=>rw[hsi]at ho;obtain⟨u',h1,h2⟩:=ho;exact⟨u',(hβo i hi hi').trans h1,h2⟩
    |kO t' e2 n' cs=>
     rw[hsi]at ho;obtain⟨u',h1,h3,h2⟩:=ho;refine⟨u',(hβo i hi hi').trans h1,h3,?_⟩;rcases h2 with h2|⟨q,cap',us,g2,g3,g4,g5,g6,g7,pre',rest,g8,g9⟩
     ·exact .inl h2
     ·exact .inr ⟨q,cap',us,g2,g3,g4,g5,g6,g7,pre',rest,g8,D.iZ (fun q o v hc hn=>⟨hc,fun hf=>hn (hf.imp (fun x=>x) fun ho=>hown q o ho)⟩) _ _ g9⟩
    |od t' e2 n' cs=>
     rw[hsi]at ho;obtain⟨u',bs',h1,h3,h2⟩:=ho;refine⟨u',bs',(hβo i hi hi').trans h1,h3,?_⟩;rw[jJ];exact h2.imp (fun x v=>nR (hval x v)) (fun _ _=>rfl) (fun _ _ _=>rfl)
    |lN e2 n' cs=>
     rw[hsi]at ho;obtain⟨u',bs',h1,h3,h2⟩:=ho;refine⟨u',bs',(hβo i hi hi').trans h1,h3,?_⟩;rw[jJ];exact h2.imp (fun x v=>nR (hval x v)) (fun _ _=>rfl) (fun _ _ _ _=>rfl)
    |mp P k es=>rw[hsi]at ho;obtain⟨q,h1,h2⟩:=ho;exact⟨q,(hβo i hi hi').trans h1,h2.imp rfl fun x v hx=>D.iN (fun q o v hc hn=>⟨hc,fun hf=>hn (hf.imp (fun x=>x) fun ho=>hown q o ho)⟩) _ _ hx⟩
 ·rcases hblk i q hi with h1|⟨h1,h1'⟩<;>rcases hblk j q hj with h2|⟨h2,h2'⟩
  ·exact h.inv.inj i j q h1 h2
  ·subst h2;have:=h.inv.inj i id' q h1 (hB2 q h2').1;subst this;unfold gR at hi;rw[sat',ak (fun h=>hne h.symm),ah rfl]at hi;exact hi.elim
  ·subst h1;have:=h.inv.inj j id' q h2 (hB2 q h1').1;subst this;unfold gR at hj;rw[sat',ak (fun h=>hne h.symm),ah rfl]at hj;exact hj.elim
  ·rw[h1,h2]
 ·rw[pE]at hx;cases hy:env[i]? with
  |none=>rw[hy]at hx;cases hx
  |some y=>rw[hy]at hx;cases hx;exact hval _ _ (h.env i y hy)
theorem Eb{e:Nat}:∀{xs:List D},(∀x∈xs,(gT x).length=e)->(jw xs).length=xs.length*e
 |[],_=>by simp[jw]
 |y::ys,he=>by rw[zl,aq,aK,he y (by simp),Eb (fun x hx=>he x (by simp[hx])),aQ,bT];omega
mutual
theorem NV.ok{O:Own}{w:World}:∀{x:D}{v:Value}{bs:List Nat},NV w x v bs->(∀b∈bs,∀o,¬O b o)->D.ok O w x v
 |.any,_,_=>fun h _=>h.elim
 |.agg _,_,_=>fun h _=>h.elim
 |.lit u,v,bs=>fun h _=>by
  simp only[NV]at h;simp only[D.ok];exact⟨h.1,h.2.1⟩
 |.sl e nl xs,v,bs=>fun h hO=>by
  simp only[NV]at h;simp only[D.ok];obtain⟨a,cap,rfl,h2,h3,h4⟩:=h;refine⟨a,cap,rfl,h2,h3,?_⟩;rcases h4 with⟨_,rfl,_⟩|⟨b,vs,t,bs',rfl,rfl,h5,h6,h7,h8⟩
  ·exact .inl rfl
  ·refine .inr ⟨b,0,rfl,NR.row h8 (fun q hq=>hO q (by simp[hq])) fun j u hj=>?_⟩;refine⟨?_,hO b (by simp) _,h7 u (bO hj)⟩;simp only[World.cell?,h5,cx,aj,aF,cg];simpa using hj
theorem NC.ir{O:Own}{w:World}:∀{xs:List D}{vs:List Value}{bs:List Nat},NC w xs vs bs->(∀v∈vs,one v=true)->(∀b∈bs,∀o,¬O b o)->D.ir O w xs vs
 |[],vs,bs=>fun h _ _=>by
  simp only[NC]at h;simp only[D.ir];exact h.1
 |c::cs,vs,bs=>fun h h1 hO=>by
  simp only[NC]at h;obtain⟨v,r,b1,b2,rfl,rfl,h3,h4⟩:=h;simp only[D.ir];exact⟨v,r,rfl,h1 v (by simp),NV.ok h3 (fun b hb=>hO b (by simp[hb])),NC.ir h4 (fun v hv=>h1 v (by simp[hv])) (fun b hb=>hO b (by simp[hb]))⟩
theorem NR.row{O:Own}{w:World}{b o e:Nat}:∀{xs:List D}{vs:List Value}{bs:List Nat},NR w e xs vs bs->(∀b∈bs,∀o,¬O b o)->jO O w b o vs->D.row O w b o e xs
 |[],_,_=>fun _ _ _=>by simp[D.row]
 |.agg cs::xs,vs,bs=>fun h hO hc=>by
  simp only[NR]at h;obtain⟨us,r,b1,b2,rfl,hl,rfl,h3,h4⟩:=h;simp only[D.row];have hc1:jO O w b o us:=fun j v hj=>hc j v (by rw[aT (aL.1 hj).1];exact hj)
  have hc2:jO O w b (o+e) r:=fun j v hj=>by
   have:=hc (e+j) v (by rw[bz gN,hl,cK];exact hj);rwa [<-di]at this
  exact⟨⟨us,hl,hc1,NC.ir h3 (fun v hv=>by obtain⟨j,hj⟩:=cC hv;exact(hc1 j v hj).2.2) fun b hb=>hO b (by simp[hb])⟩,NR.row h4 (fun b hb=>hO b (by simp[hb])) hc2⟩
 |.any::xs,vs,bs=>fun h hO hc=>by
  simp only[NR]at h;obtain⟨v,r,b1,b2,rfl,rfl,rfl,h3,h4⟩:=h;exact h3.elim
 |.lit u::xs,vs,bs=>fun h hO hc=>by
  have hq:=fun v b1=>NV.ok (O:=O) (w:=w) (x:=.lit u) (v:=v) (bs:=b1)
  simp only[NR]at h;obtain⟨v,r,b1,b2,rfl,rfl,rfl,h3,h4⟩:=h;simp only[D.row];refine⟨⟨v,by trivial,fun j u hj=>?_,hq v b1 h3 (fun b hb=>hO b (by simp[hb]))⟩,NR.row h4 (fun b hb=>hO b (by simp[hb])) fun j u hj=>?_⟩
  ·cases j with
   |zero=>exact hc 0 u (by simpa using hj)
   |succ j=>simp at hj
  ·have:=hc (1+j) u (by rw[dh];simpa using hj);rwa [<-di]at this
 |.sl e' nl ys::xs,vs,bs=>fun h hO hc=>by
  have hq:=fun v b1=>NV.ok (O:=O) (w:=w) (x:=.sl e' nl ys) (v:=v) (bs:=b1)
  simp only[NR]at h;obtain⟨v,r,b1,b2,rfl,rfl,rfl,h3,h4⟩:=h;simp only[D.row];refine⟨⟨v,by trivial,fun j u hj=>?_,hq v b1 h3 (fun b hb=>hO b (by simp[hb]))⟩,NR.row h4 (fun b hb=>hO b (by simp[hb])) fun j u hj=>?_⟩
  ·cases j with
   |zero=>exact hc 0 u (by simpa using hj)
   |succ j=>simp at hj
  ·have:=hc (1+j) u (by rw[dh];simpa using hj);rwa [<-di]at this
end
mutual
inductive yA(s:gU):AV->D->Prop
 |le {x:AV} {a:D} (h:AV.le x (.d a)):yA s x a
 |kL {e id n:Nat} {xs:List D} (h:uw s id e xs) (hn:n=xs.length):yA s (.kL e id n) (.sl e none xs)
 |agg {xs:List AV} {ds:List D} (h:vD s xs ds):yA s (.agg xs) (.agg ds)
inductive vD(s:gU):List AV->List D->Prop
 |nil:vD s [] []
 |cons {x:AV} {a:D} {xs:List AV} {ds:List D} (h:yA s x a) (hs:vD s xs ds):vD s (x::xs) (a::ds)
end
theorem Ga{C:Ctx}{β:gZ}{s:gU}{w:World}(h:Inv C β s w){e id n:Nat}{xs:List D}(hw:uw s id e xs)(hn:n=xs.length){v:Value}(hv:AV.ok β (C.gX β s) w (.kL e id n) v):D.ok C.O w (.sl e none xs) v:=by
 subst hn;obtain⟨B,h1,h2,h3⟩:=hw.nv h v hv;refine NV.ok h3 fun b hb o hO=>?_
 have hl:=h.low b o hO;rcases h.n_ b o (Ju hw.1 (h2 b hb).1 o)with h4|h4
 ·exact hl.2 h4
 ·omega
theorem D.Qy{O O':Own}{w:World}(h:∀b o,O' b o->O b o){x:D}{v:Value}(hx:D.ok O w x v):D.ok O' w x v:=D.iN (fun _ _ _ hc hn=>⟨hc,fun ho=>hn (h _ _ ho)⟩) x v hx
mutual
theorem yA.ok{C:Ctx}{β:gZ}{s:gU}{w:World}(h:Inv C β s w):∀{x:AV}{a:D}{v:Value},yA s x a->AV.ok β (C.gX β s) w x v->D.ok C.O w a v
 |_,_,v,.le hl,hv=>by
  have:=hl _ _ _ _ hv;simp only[AV.ok]at this;exact D.Qy (fun b o ho=>.inl ho) this
 |_,_,v,.kL hw hn,hv=>Ga h hw hn hv
 |_,_,v,.agg hl,hv=>by
  simp only[AV.ok]at hv;obtain⟨vs,rfl,h1,h2⟩:=hv;simp only[D.ok];exact⟨vs,rfl,vD.ir h hl h1 h2⟩
theorem vD.ir{C:Ctx}{β:gZ}{s:gU}{w:World}(h:Inv C β s w):∀{xs:List AV}{ds:List D}{vs:List Value},vD s xs ds->(∀u∈vs,one u=true)->AV.ir β (C.gX β s) w xs vs->D.ir C.O w ds vs
 |_,_,vs,.nil,_,hv=>by simpa[AV.ir,D.ir]using hv
 |_,_,vs,.cons hl hs,h1,hv=>by
  simp only[AV.ir]at hv;obtain⟨v,r,rfl,h2,h3⟩:=hv;simp only[D.ir];exact⟨v,r,rfl,h1 v (by simp),yA.ok h hl h2,vD.ir h hs (fun u hu=>h1 u (by simp[hu])) h3⟩
end
theorem vD.args{C:Ctx}{β:gZ}{s:gU}{w:World}(h:Inv C β s w):∀{xs:List AV}{ds:List D}{vs:List Value},vD s xs ds->AV.ir β (C.gX β s) w xs vs->∀β',AV.ir β' C.O w (ds.map .d) vs
 |_,_,vs,.nil,hv,β'=>by simpa[AV.ir]using hv
 |_,_,vs,.cons hl hs,hv,β'=>by
  simp only[AV.ir]at hv;obtain⟨v,r,rfl,h2,h3⟩:=hv;simp only[aN,AV.ir];exact⟨v,r,rfl,by simp only[AV.ok];exact yA.ok h hl h2,vD.args h hs h3 β'⟩
theorem Inv.grown{C:Ctx}{β:gZ}{s:gU}{w w':World}(h:Inv C β s w)(hs:w.heap.size<=w'.heap.size)(hio:yc w'=yc w)(hk:∀b,b<w.heap.size->w'.heap[b]?=w.heap[b]?):Inv C β s w':=
 (St.grow (env:=[]) (a:={tmps:=#[],defers:=[]}) ⟨.nil,h,rfl,fun i x hx=>by simp at hx⟩ hs hio hk).inv
def uh(C:Ctx):Ctx:={O:=C.O,β:=fun _=>.no,s:=[],w:=C.w,k:=0}
theorem uh.inv{C:Ctx}(h:Inv C C.β C.s C.w):Inv (uh C) (uh C).β (uh C).s (uh C).w where
 size:=aC _
 io:=rfl
 gl:=h.gl.mono fun b o v h1 h2=>⟨h1,fun h3=>h3.elim (fun h4=>h2 (.inl h4)) fun⟨_,h4⟩=>h4.elim⟩
 keep:=fun _ _ _ h _=>h
 oE:=fun _ _ _=>rfl
 n_:=fun _ _ h=>.inl h
 qM:=fun id _ h=>.inl ⟨id,h⟩
 pl:=fun _ _=>.refl _
 low:=fun b o ho=>⟨(h.low b o ho).1,fun⟨id,hq⟩=>hq.elim⟩
 obs:=fun _=>rfl
 inj:=fun _ _ _ h=>h.elim
theorem uh.grown{C:Ctx}(h:Inv C C.β C.s C.w){β':gZ}{s':gU}{w':World}(hi:Inv (uh C) β' s' w'):Inv C C.β C.s w':=
 h.grown hi.size hi.io fun b hb=>hi.oE b hb fun id hq=>hq.elim
theorem uh.gX{C:Ctx}:(uh C).gX (uh C).β (uh C).s=C.O:=by
 funext b o;refine propext ⟨fun h=>h.elim id fun⟨_,h⟩=>h.elim,.inl⟩
theorem h_.Wr{P:Program}{f:Nat}{dz:List D}{u:Value}(hc:jF P f dz (.lit u)){args:List AV}{s:gU}{k:Nat}(hl:vD s args dz):
 h_ P f args s k fun x s'=>x=.d (.lit u)/\s'=s:=fun C vs hs hk hinv hargs=>by
 subst hs;refine(hc (uh C) vs rfl rfl (uh.inv hinv) (by rw[uh.gX];exact vD.args hinv hl hargs _)).mono ?_;rintro e w' ⟨v,x,β',s',rfl,hi,hx,rfl⟩;refine⟨v,.d (.lit u),C.β,C.s,rfl,uh.grown hinv hi,?_,rfl,rfl⟩;simp only[AV.ok,D.ok]at hx⊢;exact hx
def toks(tl:List (Nat×Nat×List D)):gU:=tl.map fun p=>(p.1,.lN p.2.1 p.2.2.length (jw p.2.2))
class JX {α:Type} (f:α->D):Prop where
 lit:∀x,Na (f x)=true
class Cl {α:Type} (f:α->D):Prop where
 cl:∀x,∀c∈gT (f x),zD c=true
instance:JX iD:=⟨fun _=>rfl⟩
instance:JX bD:=⟨fun _=>rfl⟩
instance:JX sD:=⟨fun _=>rfl⟩
instance{k:IntKind}:JX (kD k):=⟨fun _=>rfl⟩
instance:Cl iD:=⟨fun _ c h=>by simp only[iD,gT,aU]at h;subst h;rfl⟩
instance:Cl bD:=⟨fun _ c h=>by simp only[bD,gT,aU]at h;subst h;rfl⟩
instance:Cl sD:=⟨fun _ c h=>by simp only[sD,gT,aU]at h;subst h;rfl⟩
instance{k:IntKind}:Cl (kD k):=⟨fun _ c h=>by simp only[kD,gT,aU]at h;subst h;rfl⟩
instance{α:Type}{e:Nat}{f:α->D}:Cl (gS e f):=⟨fun _ c h=>by simp only[gS,gT,aU]at h;subst h;rfl⟩
theorem Cl.agg{α:Type}{f:α->D}(g:α->List D)(hf:∀x,f x=.agg (g x))(h:∀x,(g x).all zD=true):Cl f:=⟨fun x c hc=>by
 rw[hf]at hc;exact cm.1 (h x) c hc⟩
section
variable{α:Type}{f:α->D}{e n id:Nat}{s:gU}{xs ys:List α}
theorem AZ[sU f e][Cl f]:(∀x∈xs.map f,(gT x).length=e)/\∀x∈xs.map f,∀c∈gT x,zD c=true:=
 ⟨fun x hx=>by obtain⟨y,_,rfl⟩:=bw.1 hx;exact sU.len y,fun x hx=>by obtain⟨y,_,rfl⟩:=bw.1 hx;exact Cl.cl y⟩
theorem uw.of[sU f e][Cl f](h:sat s id=.lN e n (jw (xs.map f)))(hn:n=xs.length):uw s id e (xs.map f):=
 ⟨by rw[h,hn,aK],AZ.1,AZ.2⟩
theorem yA.tok[sU f e][Cl f](h:sat s id=.lN e n (jw (xs.map f)))(hn:n=xs.length):yA s (.kL e id n) (gS e f xs):=
 .kL (uw.of h hn) (by rw[hn,aK])
theorem E2(f:α->D)(xs:List α):jw (xs.map f)=(lq f xs).map yO:=rfl
theorem Oh[sU f e]:(jw (xs.map f)).length=xs.length*e:=by rw[E2,aK,I7]
variable[Inhabited α]{i k:Nat}
end
theorem ij.Ul{k:Nat}{env:List AV}{s:gU}(id:Nat){e n:Nat}{cs:List AV}(cs':List AV)(hs:sat s id=.lN e n cs)(h:cs=cs'):ij k env s env (sset s id (.lN e n cs')):=fun C β a w hC hst=>by
 subst h;have:(sat (sset s id (.lN e n cs)))=sat s:=by funext i;rw[jv];split<;>simp_all
 exact⟨β,hst.defers,(hst.inv.told fun i=>by rw[this];exact vF.refl _).1,hst.len,fun i x hx=>by
  rw[(hst.inv.told (s':=sset s id (.lN e n cs)) fun i=>by rw[this];exact vF.refl _).2];exact hst.env i x hx⟩
theorem ij.XI{k:Nat}{env:List AV}{s:gU}(id:Nat){e n:Nat}{cs:List AV}(cs':List AV)(hs:sat s id=.lN e n cs)(h:sM cs cs'):ij k env s env (sset s id (.lN e n cs')):=fun C β a w hC hst=>by
 have hq:∀i,vF (sat s i) (sat (sset s id (.lN e n cs')) i):=fun i=>by
  rw[jv];by_cases hi:i=id
  ·subst hi;rw[ah rfl,hs];exact⟨rfl,rfl,h⟩
  ·rw[ak hi];exact vF.refl _
 obtain⟨h1,h2⟩:=hst.inv.told hq;exact⟨β,hst.defers,h1,hst.len,fun i x hx=>by rw[h2];exact hst.env i x hx⟩
theorem sM.append{xs ys us vs:List AV}(h1:sM xs ys)(h2:sM us vs):sM (xs++us) (ys++vs):=by
 induction xs generalizing ys with
 |nil=>cases ys with
  |nil=>exact h2
  |cons _ _=>exact h1.elim
 |cons x xs ih=>cases ys with
  |nil=>exact h1.elim
  |cons y ys=>exact⟨h1.1,ih h1.2⟩
theorem sM.rep{z:List AV}{d:D}(h:sM z ((gT d).map yO)):∀n:Nat,sM ((List.replicate n z).flatten) (jw (List.replicate n d))
 |0=>trivial
 |n+1=>by rw[cy,cy,cA,zl];exact h.append (sM.rep h n)
theorem To.XF{e0 e:Nat}:To (.d (.sl e0 (some true) [])) (.dp (.sl e none [])):=.inr (.inr ⟨e0,e,rfl,rfl⟩)
attribute [go_sem] tZ D4
attribute [go_sem] lu
def eD{α:Type}(f:α->D)(M:List (Lit×α)):List (Lit×D):=M.map fun p=>(p.1,f p.2)
section
variable{α:Type}{f:α->D}{M:List (Lit×α)}{kl:Lit}{x:α}
theorem TF:eD f []=[]:=rfl
theorem PS:eD f ((kl,x)::M)=(kl,f x)::eD f M:=rfl
end
theorem MB{id:Nat}:AV.cells (.mp id)=some [.mp id]:=rfl
theorem Ra{id:Nat}{xs:List AV}:AV.qu (.mp id::xs)=none:=rfl
theorem HH{v:Value}:HG (.lit v)=false:=rfl
theorem Kz{e:Nat}{nl:Option Bool}{xs:List D}:HG (.sl e nl xs)=false:=rfl
theorem HI{α:Type}{e:Nat}{f:α->D}{xs:List α}:HG (gS e f xs)=false:=rfl
attribute [go_sem] TF PS MB Ra HH Kz HI
def XN(id:Nat)(ds:List D):AV->AV
 |.ptr j off=>if j=id then .pv (ds.drop off)else .ptr j off
 |x=>x
def UL:AV->Bool
 |.ptr _ _=>true
 |.pv _=>true
 |.d _=>true
 |_=>false
def M0:AV->Bool
 |.d _=>true
 |_=>false
def ME:Ob->Bool
 |.obj _ cs=>cs.all M0
 |.dead=>true
 |_=>false
theorem D3{ρ:Nat->Option Nat}:∀{cs:List AV},cs.all M0=true->AV.iz ρ cs=cs
 |[],_=>rfl
 |x::xs,h=>by
  rw[eC,bE]at h;have ih:=D3 (ρ:=ρ) h.2;cases x with
  |d y=>simp only[AV.iz,AV.jW,ih]
  |_=>exact absurd h.1 (by simp[M0])
theorem MF{rest:gU}(hr:rest.all (fun p=>ME p.2)=true)(j:Nat):ME (sat rest j)=true:=by
 induction rest with
 |nil=>rfl
 |cons p r ih=>
  rw[eC,bE]at hr;simp only[sat];split
  ·exact hr.1
  ·exact ih hr.2
theorem KG{id:Nat}{o:Ob}(h:ME o=true):o.kill id=o:=by
 cases o<;>simp[ME]at h
 ·rfl
 ·rename_i t cs;simp only[Ob.kill];rw[D3 (by rw[cm];exact h)]
theorem h_.ZJ{P:Program}{f:Nat}{args:List AV}{g id t:Nat}{caps:List AV}{ds:List D}{rest:gU}(h:h_ P f args [] 0 fun x s'=>x=.fn g [] caps/\s'=(id,.obj t (ds.map .d))::rest)
 (hc:caps.all UL=true) (hr:rest.all (fun p=>ME p.2)=true) (hd:sat rest id=.dead):h_ P f args [] 0 fun x s'=>x=.fn g [] (caps.map (XN id ds))/\s'=rest:=fun C vs hs hk hinv hargs=>by
 refine(h C vs hs hk hinv hargs).mono fun e w' ⟨v,x,β',s',he,hi,hx,hxe,hse⟩=>?_
 subst hxe hse;have ho:=hi.obs id;simp only[sat,aB]at ho;obtain⟨b,us,hb,hh,hone,pre,rst,hus,hpre⟩:=ho;have hob:=MF hr;have hsat:∀j,sat (iW id ((id,Ob.obj t (ds.map .d))::rest)) j=sat rest j:=fun j=>by
  rw[oC];by_cases hj:j=id
  ·subst hj;simp[hd]
  ·simp only[hj,aF,sat];exact KG (hob j)
 obtain⟨h2,hf⟩:=(hi.kill id (by rw[hk];exact cQ _)).told (s':=rest) fun j=>by rw[hsat j];exact vF.refl _
 have hsub:∀b o,C.gX (gY β' id .no) rest b o->C.gX β' ((id,Ob.obj t (ds.map .d))::rest) b o:=fun b o ho=>by
  rw[hf]at ho;exact ho.imp (fun h=>h) tq
 have hblk:gR β' ((id,Ob.obj t (ds.map .d))::rest) id b:=by simp only[gR,sat,aB];exact hb
 have hnot:∀o,¬C.gX (gY β' id .no) rest b o:=fun o ho=>by
  rcases ho with ho|ho
  ·have h1:=hi.low b o ho;have hown:own β' ((id,.obj t (ds.map .d))::rest) b o:=⟨id,by simp only[sat,aB];exact hb⟩;rcases hi.n_ b o hown with h3|h3
   ·exact h1.2 h3
   ·omega
  ·obtain⟨j,hj⟩:=ho.block;have hj1:gR β' ((id,Ob.obj t (ds.map .d))::rest) j b/\j≠id:=by
    have hji:j≠id:=fun e=>by subst e;unfold gR at hj;rw[hd]at hj;exact hj
    refine⟨?_,hji⟩;have:=rY (β:=β') (s:=(id,Ob.obj t (ds.map .d))::rest) (id:=id) (i:=j) (b:=b) (by
     unfold gR at hj⊢;rw[hsat];exact hj)
    exact this
   exact hj1.2 (hi.inj j id b hj1.1 hblk)
 simp only[AV.ok,AV.ir]at hx;obtain⟨fs,cs,rfl,hfs,hcs⟩:=hx;refine⟨_,_,_,_,he,h2,?_,rfl,rfl⟩;simp only[AV.ok,AV.ir];refine⟨fs,cs,rfl,hfs,?_⟩;have dm:∀{x:D}{u:Value},D.ok (C.gX β' ((id,Ob.obj t (ds.map .d))::rest)) w' x u->D.ok (C.gX (gY β' id .no) rest) w' x u:=fun{x u} hx=>D.iN (fun b o v hc hn'=>⟨hc,fun h=>hn' (hsub b o h)⟩) _ _ hx
 have key:∀(caps:List AV)(us':List Value),caps.all UL=true->AV.ir β' (C.gX β' ((id,Ob.obj t (ds.map .d))::rest)) w' caps us'->AV.ir (gY β' id .no) (C.gX (gY β' id .no) rest) w' (caps.map (XN id ds)) us':=by
  intro caps;induction caps with
  |nil=>intro us' _ h;simpa[AV.ir]using h
  |cons x xs ih=>
   intro us' hc h;simp only[eC,bE]at hc;simp only[aN,AV.ir]at h⊢;obtain⟨u,r,rfl,h3,h4⟩:=h;refine⟨u,r,rfl,?_,ih r hc.2 h4⟩;cases x<;>simp[UL]at hc
   ·rename_i d;simp only[XN,AV.ok]at h3⊢;exact dm h3
   ·rename_i j off;simp only[XN];simp only[AV.ok]at h3;obtain⟨b2,hb2,rfl⟩:=h3;by_cases hj:j=id
    ·subst hj;rw[hb]at hb2;cases hb2;simp only[aB,AV.ok];have hl:=AV.iC hpre;have hp2:=(AV.je.1 hpre).2;refine⟨b,off,pre.drop off,rfl,fun q u hq=>?_,?_⟩
     ·rw[cE]at hq;have hq2:us.toList[off+q]?=some u:=by rw[hus,aT (aL.1 hq).1];exact hq
      refine⟨?_,hnot _,hone u (bO hq2)⟩;simp only[World.cell?,hh,cx,aj,aF];simpa using hq2
     ·refine D.je.2 ⟨by simp at hl;simp[hl],fun q x u hx hu=>?_⟩;rw[cE]at hx hu;have hu2:us.toList[off+q]?=some u:=by rw[hus,aT (aL.1 hu).1];exact hu
      refine⟨hone u (bO hu2),?_⟩;have:=hp2 (off+q) (.d x) u (by rw[bq,hx];rfl) hu;simp only[AV.ok]at this;exact dm this
    ·simp only[hj,aF,AV.ok];exact⟨b2,by simpa[gY,hj]using hb2,rfl⟩
   ·rename_i cs2;simp only[XN];simp only[AV.ok]at h3⊢;obtain⟨b2,o2,vs2,rfl,k1,k2⟩:=h3;exact⟨b2,o2,vs2,rfl,k1.mono (fun b o v hc hn'=>⟨hc,fun h=>hn' (hsub b o h)⟩),D.iZ (fun b o v hc hn'=>⟨hc,fun h=>hn' (hsub b o h)⟩) _ _ k2⟩
 exact key caps cs.toList hc hcs
section
variable{P:Program}{k:Nat}{Q:Post}{env:List AV}{s:gU}
theorem T5{α σ β:Type}[Inhabited α]{f:Nat×σ->Option ((Nat×σ)⊕β)}{s0:σ}{b:β}(hb:g_ f (0,s0)=some b){g:Operand}{p1 p2:Nat}{x y:gV}{gf:Nat}{caps:List AV}{e1 e2:α->D}{xs:List α}
 (it:Iter P gf caps (xs.map fun x=>[e1 x,e2 x])) (K:Nat) (S:σ->gU) (hw:ij k env s env (S s0))
 (round:∀j p t,j<xs.length->f (j,p)=some t->(∀b',t=.inr b'->b'=b)->
  rA P K x (wj (rA P K y (Dw K env S (fun p'=>t=.inl (j+1,p')) Q)) fun _ _ _=>False) (nX env [(p1,.d (e1 (xs.getD j default))),(p2,.d (e2 (xs.getD j default)))]) (S p))
 (done:∀p t,f (xs.length,p)=some t->(∀b',t=.inr b'->b'=b)->Q .normal env (S p))
 (hg:ev env g=.fn gf [] caps:=by rfl) (hK:k<=K:=by omega) (hfix:AV.iz (uz K) env=env:=by rfl) (hflat:(x.flat&&y.flat)=true:=by rfl):ng P k (.Dv g [p1,p2] x y) Q env s:=by
 rw[bE]at hflat;have hget:∀i,i<xs.length->(xs.map fun x=>[e1 x,e2 x]).getD i []=[e1 (xs.getD i default),e2 (xs.getD i default)]:=fun i hi=>by simp[av,bq,az hi]
 refine HX hb K hK hfix hflat hg it (fun i hi=>?_) S hw (fun j p t hj ht hbt=>?_) (fun p t ht hbt=>done p t (by rwa [aK]at ht) hbt)
 ·rw[aK]at hi;rw[hget i hi];rfl
 ·rw[aK]at hj;rw[hget j hj];refine(gO (round j p t hj ht hbt)).mono fun e env' s' hq=>?_
  cases e with
  |normal=>exact gO hq
  |_=>exact hq
theorem T4{α σ β:Type}[Inhabited α]{f:Nat×σ->Option ((Nat×σ)⊕β)}{s0:σ}{b:β}(hb:g_ f (0,s0)=some b){g:Operand}{p1:Nat}{x y:gV}{gf:Nat}{caps:List AV}{e1:α->D}{xs:List α}
 (it:Iter P gf caps (xs.map fun x=>[e1 x])) (K:Nat) (S:σ->gU) (hw:ij k env s env (S s0))
 (round:∀j p t,j<xs.length->f (j,p)=some t->(∀b',t=.inr b'->b'=b)->
  rA P K x (wj (rA P K y (Dw K env S (fun p'=>t=.inl (j+1,p')) Q)) fun _ _ _=>False) (nX env [(p1,.d (e1 (xs.getD j default)))]) (S p))
 (done:∀p t,f (xs.length,p)=some t->(∀b',t=.inr b'->b'=b)->Q .normal env (S p))
 (hg:ev env g=.fn gf [] caps:=by rfl) (hK:k<=K:=by omega) (hfix:AV.iz (uz K) env=env:=by rfl) (hflat:(x.flat&&y.flat)=true:=by rfl):ng P k (.Dv g [p1] x y) Q env s:=by
 rw[bE]at hflat;have hget:∀i,i<xs.length->(xs.map fun x=>[e1 x]).getD i []=[e1 (xs.getD i default)]:=fun i hi=>by simp[av,bq,az hi]
 refine HX hb K hK hfix hflat hg it (fun i hi=>?_) S hw (fun j p t hj ht hbt=>?_) (fun p t ht hbt=>done p t (by rwa [aK]at ht) hbt)
 ·rw[aK]at hi;rw[hget i hi];rfl
 ·rw[aK]at hj;rw[hget j hj];refine(gO (round j p t hj ht hbt)).mono fun e env' s' hq=>?_
  cases e with
  |normal=>exact gO hq
  |_=>exact hq
end
theorem mf{P:Program}{f:Nat}{mc:gV}{n:Nat}{rs:List rW}{fn:Func}(h1:P.funcs[f]?=some fn)(h3:fn.ntmps=n)(h2:fn.body.bind (mq P)=some mc.erase:=by kernel_rfl)
 (h4:fn.results.toList.mapM (wM P)=some rs:=by kernel_rfl):jV P f mc n rs:=⟨fn,h1,h2,h3,h4⟩
section
variable{α γ:Type}{P:Program}{k0 f:Nat}{args env:List AV}{s:gU}{d:Option Nat}{R:List AV->gU->Prop}{x:Option α}{β:Type}{K:α->Option β}{r:β}{q:α->Prop}
end
attribute [go_sem] List.set_cons_zero List.set_cons_succ
theorem Nv:uF []=true:=(rfl)
theorem Uf{x:D}{xs:List AV}:uF (.d x::xs)=uF xs:=(rfl)
theorem Nu{e id n:Nat}{xs:List AV}:uF (.kL e id n::xs)=uF xs:=(rfl)
attribute [go_sem] Nv Uf Nu
theorem Fb{xs:List AV}:sM xs xs<->True:=⟨fun _=>trivial,fun _=>sM.refl xs⟩
attribute [go_sem] Fb ne_eq not_false_eq_true
theorem AQ{ρ:Nat->Option Nat}{xs:List AV}{n:Nat}:AV.iz ρ (xs.take n)=(AV.iz ρ xs).take n:=by simp only[jJ,bI]
theorem AP{ρ:Nat->Option Nat}{xs:List AV}{n:Nat}:AV.iz ρ (xs.drop n)=(AV.iz ρ xs).drop n:=by simp only[jJ,bJ]
attribute [go_sem] AQ AP
theorem Inv.QF{C:Ctx}{β:gZ}{s:gU}{w:World}(h:Inv C β s w){id e n:Nat}{xs:List D}(hs:sat s id=.lN e n (jw xs))(he:∀x∈xs,(gT x).length=e)(h0:0<e):n=xs.length:=by
 have ho:=h.obs id;rw[hs]at ho;obtain⟨u,bs,_,_,hl,_⟩:=ho;rw[Eb he]at hl;exact(Nat.eq_of_mul_eq_mul_right h0 hl).symm
section
variable{α γ:Type}[Inhabited α]{f:α->D}{f':γ->D}{e e' n k0:Nat}{s:gU}{env:List AV}{xs:List α}{y y':α}{ys:List γ}{i k:Nat}
theorem Ea[sU f e]{L:List AV}{m m':Nat}(hi:i<xs.length)(hm:m=i*e)(hm':m'=i*e+e)(hL:L=(gT (f y)).map yO):
 (jw (xs.map f)).take m++L++(jw (xs.map f)).drop m'=jw ((xs.set i y).map f):=by
 subst hm;subst hm';subst hL;have h1:=DO sU.len xs i 0 hi (cQ e) (f:=f);have h2:=AI sU.len xs i e hi (aC e) (f:=f);rw[E2,E2,<-bI,<-bJ,h2];rw[dg]at h1;rw[h1,dK,aV,bu (by rw[sU.len];exact aC _),bh,cV,ah hi,xF,nF];simp only[aP,aG]
theorem ij.LW[sU f' e'][Cl f'](id c q:Nat){A L B:List AV}{m m':Nat}(hs:sat s id=.lN e n (A++L++B))(hq:L[q]?=some (.kL e' c m))(hcs:sat s c=.lN e' m' (jw (ys.map f')))(hm:m=m')(h0:0<e')
 (hc:k0<=c) (hne:id≠c):
 ij k0 env s (AV.iz (ic c) env) (sset (iW c s) id (.lN e n (AV.iz (ic c) A++(AV.iz (ic c) L).set q (.dp (gS e' f' ys))++AV.iz (ic c) B))):=fun C β a w hC hst=>by
 subst hC;subst hm;have hlen:=hst.inv.QF hcs AZ.1 h0;rw[aK]at hlen;subst hlen;have hqL:q<L.length:=(aL.1 hq).1;have hj:(A++L++B)[A.length+q]?=some (.kL e' c (ys.map f').length):=by rw[aG,bz gN,cK,aT hqL,hq,aK]
 obtain⟨β',h2⟩:=hst.OY hne hc hs hj (uw.of hcs rfl);refine⟨β',?_⟩;have:(AV.iz (ic c) (A++L++B)).set (A.length+q) (.dp (.sl e' none (ys.map f')))=AV.iz (ic c) A++(AV.iz (ic c) L).set q (.dp (gS e' f' ys))++AV.iz (ic c) B:=by
  rw[tZ,tZ,aG,aG,List.set_append,ak (by rw[mA];omega),mA,cK,List.set_append,ah (by rw[mA];exact hqL)];rfl
 rw[this]at h2;exact h2
end
attribute [go_sem] Oh
theorem ij.ZI{α:Type}{f:α->D}{e n m k0 id:Nat}{s:gU}{env:List AV}{z:List AV}(x0:α)(hs:sat s id=.lN e n ((List.replicate m z).flatten))(h:sM z ((gT (f x0)).map yO)):
 ij k0 env s env (sset s id (.lN e n (jw ((List.replicate m x0).map f)))):=
 ij.XI id _ hs (by rw[List.map_replicate];exact sM.rep h m)
attribute [go_sem] Sum.elim_inl Sum.elim_inr
section
variable{P:Program}{k0 f:Nat}{args env:List AV}{s:gU}{d:Option Nat}{R:List AV->gU->Prop}
theorem CN{α1 α2 β:Type}{x:Option (α1⊕α2)}{K1:α1->Option β}{K2:α2->Option β}{r:β}{q1:α1->Prop}{q2:α2->Prop}(pr nw:List gv){dz:List AV}{s1:gU}{t1:α1->gU}{t2:α2->gU}{y1:α1->AV}{y2:α2->AV}[i:iH x fun a=>h_ P f dz s1 pr.length fun x s'=>x=Sum.elim y1 y2 a/\s'=Sum.elim t1 t2 a]
 (h:OW x (Sum.elim K1 K2) r) (hk1:∀a,x=some (.inl a)->K1 a=some r->q1 a) (hk2:∀a,x=some (.inr a)->K2 a=some r->q2 a)
 (e1:∀a,R (iI d env ((y1 a).jW (lz (pr++nw)))) (pO s (t1 a) (pr++nw) (pr++nw))=q1 a:=by intro a;first|((conv=>lhs;simp(maxSteps:=1000000) (disch:=omega)only[go_sem,kz,kr,lO,lM,bG,aV,bh,Nat.reduceAdd,Nat.reduceSub,Nat.reduceLeDiff,Nat.reduceEqDiff,Nat.reduceLT,Int.reduceToNat,reduceIte,reduceCtorEq])<;>rfl)|rfl)
 (e2:∀a,R (iI d env ((y2 a).jW (lz (pr++nw)))) (pO s (t2 a) (pr++nw) (pr++nw))=q2 a:=by intro a;first|((conv=>lhs;simp(maxSteps:=1000000) (disch:=omega)only[go_sem,kz,kr,lO,lM,bG,aV,bh,Nat.reduceAdd,Nat.reduceSub,Nat.reduceLeDiff,Nat.reduceEqDiff,Nat.reduceLT,Int.reduceToNat,reduceIte,reduceCtorEq])<;>rfl)|rfl)
 (h1:pr.map (·.1)=List.range pr.length:=by rfl) (h2:((pr++nw).map (·.1)).Nodup:=by decide) (h3:((pr++nw).map (·.2)).Nodup:=by decide)
 (h4:∀p∈nw,sat s p.2=.dead/\k0<=p.2:=by simp[sat]) (ha:iG (args.map fun x=>x.jW (nQ pr)) dz:=by exact oG) (hs:kj (kR s pr pr) s1:=by exact oG):lK P k0 f args env s d R:=by
 obtain⟨a,g1,g2⟩:=bind_some h;cases a with
 |inl a=>exact En pr nw (i.c g1) h1 h2 h3 h4 ha hs ((e1 a).symm▸hk1 a g1 g2)
 |inr a=>exact En pr nw (i.c g1) h1 h2 h3 h4 ha hs ((e2 a).symm▸hk2 a g1 g2)
end
theorem Hz{l:List AV}{c x:AV}{n:Nat}:(c::l).getD (1+n) x=l.getD n x:=by rw[dh];rfl
theorem Ip{l:List AV}{c:AV}{n:Nat}:List.take (1+n) (c::l)=c::List.take n l:=by rw[dh];rfl
attribute [go_sem] Hz Ip
theorem BD{α:Type}{f:α->D}{xs:List α}{i:Nat}{a c:AV}{v:α}(h:i<xs.length)(hle:AV.le a (.d (f v))):
 iG (c::(List.map (aD f) (List.take i xs)++[a]++List.map (aD f) (List.drop (1+i) xs))) (c::(xs.set i v).map (aD f)):=by
 rw[dh 1 i];exact⟨AV.le_refl _,Gb h hle⟩
def LS(K:Nat)(Q:Post)(e:Exit)(env env':List AV)(s':gU):Prop:=∃s'',(∃env'',ij K env' s' env'' s'')/\Q e env s''
theorem LS.of{K:Nat}{Q:Post}{e:Exit}{env env' env'':List AV}{s' s2:gU}(hw:ij K env' s' env'' s2)(h:Q e env s2):LS K Q e env env' s':=⟨s2,⟨_,hw⟩,h⟩
section
variable{P:Program}{k:Nat}{Q:Post}{env:List AV}{s:gU}
theorem Ut{ι:Type}{K:Nat}{env env':List AV}{s':gU}{S:ι->gU}{next:ι->Prop}:Dw K env S next Q .ret env' s'=LS K Q .ret env env' s':=(rfl)
end
attribute [go_sem] Ut
theorem MS{α:Type}{n:Nat}{xs:List α}:Ku n xs.length=(List.take n xs).length:=(ck).symm
theorem MQ{α:Type}{f:α->D}{e n:Nat}[sU f e]{xs:List α}:PZ n e (lq f xs)=lq f (List.take n xs):=by
 unfold PZ;induction xs generalizing n with
 |nil=>simp[lq]
 |cons x xs ih=>
  cases n with
  |zero=>simp[lq]
  |succ n=>rw[cG,nF,nF,Nat.succ_mul,dh,List.take_append,bH (by rw[sU.len (f:=f)];omega),sU.len (f:=f),cK,ih]
attribute [go_sem] MS MQ
section
variable{E:Ending->Value->Prop}{P:Program}{f:Nat}
theorem oH.args{args dz:List AV}{s:gU}{k:Nat}{R:AV->gU->Prop}(h:oH E P f dz s k R)(hl:iG args dz):oH E P f args s k R:=
 fun C vs h1 h2 h3 h4=>h C vs h1 h2 h3 (hl.ir h4)
theorem oH.S_{dz:List AV}{s s1:gU}{k:Nat}{R:AV->gU->Prop}(h:oH E P f dz s1 k R)(hs:kj s s1):oH E P f dz s k R:=fun C vs h1 h2 h3 h4=>by
 subst h1;have hs':=hs.sat;obtain⟨h5,h6⟩:=h3.told hs';refine(h {C with s:=s1} vs rfl h2 ((Inv.ctx hs').1 h5) (by
  show AV.ir C.β (Ctx.gX {C with s:=s1} C.β s1) C.w dz vs.toList;have:Ctx.gX {C with s:=s1} C.β s1=C.gX C.β C.s:=h6;rw[this];exact h4)).mono fun e w' ⟨v,x,β',s',e1,e2,e3,e4⟩=>⟨v,x,β',s',e1,(Inv.ctx hs').2 e2,e3,e4⟩
end
def Au{α1 α2:Type}(pv:Value)(P:Program)(f:Nat)(args:List AV)(s:gU)(k:Nat)(y1:α1->AV)(t1:α1->gU)(t2:α2->gU)(a:α1⊕α2):Prop:=
 oH (XE pv) P f args s k fun x s'=>x=Sum.elim (fun a=>.lE [y1 a,okB true]) (fun _=>.lE [okB false,okB false]) a/\s'=Sum.elim t1 t2 a
theorem oH.done{E:Ending->Value->Prop}{P:Program}{f:Nat}{args:List AV}{s:gU}{k:Nat}{y:AV}{t:gU}(h:oH E P f args s k fun x s'=>iV k x s' y t):oH E P f args s k fun x s'=>x=y/\s'=t:=fun C vs h1 h2 h3 h4=>
 (h C vs h1 h2 h3 h4).mono fun _ w' ⟨v,_,β',_,e1,e2,e3,e4⟩=>let⟨β2,h5,h6⟩:=e4 C β' w' v h2 e2 e3;⟨v,y,β2,t,e1,h5,h6,rfl,rfl⟩
theorem jV.Rm{pv:Value}{P:Program}{f:Nat}{mc:gV}{n:Nat}{rs:List rW}(h:jV P f mc n rs){args:List AV}{s:gU}{k:Nat}{α1 α2:Type}{y1:α1->AV}{t1:α1->gU}{t2:α2->gU}{a:α1⊕α2}
 (hm:ng P k mc (FO pv rs fun x s'=>iV k x s' (Sum.elim (fun a=>.lE [y1 a,okB true]) (fun _=>.lE [okB false,okB false]) a) (Sum.elim t1 t2 a)) (args++List.replicate (n-args.length) .gW) s):
 Au pv P f args s k y1 t1 t2 a:=oH.done (h.UW hm)
theorem ri.call{α1 α2 β:Type}{x:Option (α1⊕α2)}{K1:α1->Option β}{K2:α2->Option β}{r:β}{pv:Value}{P:Program}{k0:Nat}{Q:Post}{d:Option Nat}{f:Nat}{args:List Operand}{env:List AV}{s:gU}(pr nw:List gv){dz:List AV}{s1:gU}{t1:α1->gU}{t2:α2->gU}{y1:α1->AV}
 [i:iH x fun a=>Au pv P f dz s1 pr.length y1 t1 t2 a] (h:OW x (Sum.elim K1 K2) r)
 (hk1:∀a,x=some (.inl a)->K1 a=some r->Q .normal (iI d env ((y1 a).jW (lz (pr++nw)))) (pO s (t1 a) (pr++nw) (pr++nw)))
 (hk2:∀a,x=some (.inr a)->K2 a=some r->Q (XH pv) env (pO s (t2 a) (pr++nw) (pr++nw)))
 (h1:pr.map (·.1)=List.range pr.length) (h2:((pr++nw).map (·.1)).Nodup) (h3:((pr++nw).map (·.2)).Nodup)
 (h4:∀p∈nw,sat s p.2=.dead/\k0<=p.2) (ha:iG ((args.map (ev env)).map fun x=>x.jW (nQ pr)) dz) (hs:kj (kR s pr pr) s1):ri P k0 pv Q ⟨d,.me f args,none⟩ env s:=by
 obtain⟨a,g1,g2⟩:=bind_some h;refine⟨pr,nw,_,h1,h2,h3,h4,(oH.S_ (i.c g1) hs).args ha,fun x s' ⟨e1,e2⟩=>?_⟩;subst e1 e2;cases a with
 |inl a=>
  refine⟨(y1 a).jW (lz (pr++nw)),true,?_,fun _=>hk1 a g1 g2,fun e=>by cases e⟩;simp only[ee,AV.jW,AV.iz,okB]
 |inr a=>
  refine⟨okB false,false,?_,fun e=>Bool.noConfusion e,fun _=>hk2 a g1 g2⟩;simp only[eM,AV.jW,AV.iz,okB]
theorem ri.Da{pv:Value}{P:Program}{k0:Nat}{Q:Post}{x:Operand}{env:List AV}{s:gU}{t:Nat}{u:Value}(hx:ev env x=.d (.lit (.iface t u)))(hp:pv=.iface t u)(h:Q (XH pv) env s):ri P k0 pv Q ⟨none,.Da x,none⟩ env s:=by
 subst hp;exact⟨hx,⟨t,u,rfl⟩,h⟩
section
variable{P:Program}{k:Nat}{Q:Post}{env:List AV}{s:gU}{K:List AV->gU->Prop}{pv:Value}
theorem TK{rs:List rW}{R:AV->gU->Prop}:FO pv rs R .normal env s=vg env s rs fun xs=>R (.lE [sI xs,okB true]) s:=(rfl)
theorem TM{rs:List rW}{R:AV->gU->Prop}:FO pv rs R .ret env s=vg env s rs fun xs=>R (.lE [sI xs,okB true]) s:=(rfl)
attribute [go_sem] TK TM okB
def Kp(ms:List iw)(after:List gz)(pv:Value)(P:Program)(k:Nat)(Q:Post)(m0:iw)(acc:List (List Nat×List Nat))(env:List AV)(s:gU):Prop:=ux ms after acc.reverse=true/\ri P k pv Q m0 env s
theorem Kp.of{ms:List iw}{af:List gz}{m0:iw}{acc:List (List Nat×List Nat)}(h1:ux ms af acc.reverse=true)(h2:ri P k pv Q m0 env s):Kp ms af pv P k Q m0 acc env s:=⟨h1,h2⟩
theorem Qh{ms:List iw}{m0:iw}{after:List gz}(pv:Value)(hP:P.follows .mixedOrders=true)(hg0:m0.guard=none)
 (hlast:((List.range ms.length).all fun i=>((FC after).getD ms.length []).contains i)=true) (h:uM P k (Kp ms after pv P k Q m0) ms [] env s):ng P k (.draw (ms++[m0]) after) Q env s:=Qi pv hP hg0 hlast h
theorem Es{rs:List rW}{R:AV->gU->Prop}(h:R (.lE [okB false,okB false]) s):FO pv rs R (XH pv) env s:=⟨rfl,h⟩
end
theorem h_.Ud{P:Program}{f:Nat}{args:List AV}{s:gU}{k:Nat}{R:AV->gU->Prop}(j id t e:Nat){e0:Nat}(hd:sat s id=.dead)(hj:args[j]?=some (.d (.sl e0 (some true) [])))
 (h:h_ P f (args.set j (.own e id [])) (sset s id (.tok t e 0)) (k+1) R) (hid:k<=id:=by decide):h_ P f args s k R:=fun C vs h1 h2 h3 h4=>by
 subst h1;subst h2;have hst:St C C.β [] C.s {tmps:=#[],defers:=[]} C.w:=⟨.nil,h3,rfl,fun i x hx=>by simp at hx⟩;obtain⟨g1,m⟩:=hst.CX (id:=id) (t:=t) (e:=e) hd;have hI:=g1.inv;let C2:Ctx:={C with β:=gY C.β id (.tok sJ 0),s:=sset C.s id (.tok t e 0),w:=C.w,k:=C.k+1};have hI2:Inv C2 C2.β C2.s C2.w:=hI.here (K:=C.k+1);have hargs:AV.ir C2.β (C2.gX C2.β C2.s) C2.w (args.set j (.own e id [])) vs.toList:=by
  refine EL hj (fun v hv=>?_) (m.ir h4);simp only[AV.ok]at hv;rw[CF hv];exact BI (by simp[C2,gY])
 refine(h C2 vs rfl rfl hI2 hargs).mono fun e w' ⟨v,x,β',s',e1,e2,e3,e4⟩=>⟨v,x,β',s',e1,?_,e3,e4⟩
 exact hI.back e2 (fY _)
theorem MY{P:Program}{l:Nat}{pre post:List iw}{d q0:Nat}{want:Bool}{g:Operand}{args:List Operand}{Q:sB}{env:List AV}{x:List D}{r:List (List D)}
 (hpre:sS P 0 pre env [] (fun env' s'=>∃env1,ij 0 env' s' env1 []/\AV.iz (fun _=>none) env1=env1/\ev env1 g=.d (.lit (.func (.yield l) #[] #[]))/\args.map (ev env1)=x.map .d/\env1.getD q0 .gW=.d (.lit (.bool want))/\
  ∀b,sS P 0 post (env1.set d (.d (bD b))) [] (fun env' s'=>∃env2,ij 0 env' s' env2 []/\AV.iz (fun _=>none) env2=env2/\Q .normal env2 (if b then some r else none)))):
 Bs P l (.gQ (pre++⟨some d,.mz g args,some (some q0,want)⟩::post)) Q env (some (x::r)):=fun c hc els J Jx hJ n X a W hst hl=>by
 obtain⟨rid,ops,rfl,mops⟩:=zR (ms:=(pre++⟨some d,.mz g args,some (some q0,want)⟩::post).map iw.erase) hc;have hlen:ops.size=pre.length+(1+post.length):=by
  have:=(uB mops).1;simp at this;omega
 obtain⟨t1,t2⟩:=vU pre.length mops;have e1:(List.map iw.erase (pre++⟨some d,.mz g args,some (some q0,want)⟩::post)).take pre.length=pre.map iw.erase:=by rw[aP];exact eK (by simp)
 have e2:(List.map iw.erase (pre++⟨some d,.mz g args,some (some q0,want)⟩::post)).drop pre.length=(⟨some d,.mz g args,some (some q0,want)⟩::post).map iw.erase:=by rw[aP];exact List.drop_left' (by simp)
 rw[e1]at t1;rw[e2]at t2;obtain⟨t3,t4⟩:=vU 1 t2;rw[List.drop_drop]at t4;simp only[aN,cG,dK,fy,bG]at t3 t4;have hlt:pre.length<ops.toList.length:=by simp;omega
 rw[aE hlt]at t3;simp only[cG,dK,cn,List.mapM_nil,b_,dG,ai,aM]at t3;obtain⟨m0,q6,_,rfl,q6'⟩:=t3;simp only[bR,and_true]at q6';subst q6';have g6:ops[pre.length]?=some ops.toList[pre.length]:=by simp at hlt;simp[hlt]
 generalize ops.toList[pre.length]=o6 at q6 g6;obtain⟨p6,d6,gd6⟩:=sX q6;have hmo6:jI P o6=some (.mz g args):=by
  cases hq:jI P o6 with
  |some y=>rw[hq]at p6;rw[show y=rB.mz g args from p6.symm]
  |none=>rw[hq]at p6;cases p6
 obtain⟨cl,hop6,hcal,hargs6⟩:=Cb hmo6;obtain⟨j6,hgd6,hj6⟩:∃j,o6.guard=some (j,want)/\(ops[j]?).bind (·.dst)=some q0:=by
  cases hq:o6.guard with
  |none=>rw[hq]at gd6;cases gd6
  |some x=>
   rw[hq]at gd6;simp only[iw.erase,aS,aM,dP]at gd6;exact⟨x.1,by rw[gd6.2],gd6.1.symm⟩
 have hdst6:o6.dst=some d:=d6.symm;obtain⟨hn,hdr,hJn⟩:=hl;have hnl:n<els.length:=by
  rcases cH n els.length with h|h
  ·exact h
  ·rw[bu h]at hdr;cases hdr
 have hx:els.getD n []=x/\els.drop (n+1)=r:=by
  rw[aE hnl]at hdr;simp only[bR]at hdr;exact⟨by rw[av,az hnl];exact hdr.1,hdr.2⟩
 refine wpIn_region ?_;rw[hlen,dI];refine yb (C:=vz X W) (m:=1+post.length) pre.length 0 pre _ [] (by rw[hlen];omega) (by rw[bG];exact t1) hpre _ a W hst fun β' env' s' a4 W4 hst4 hK0=>?_
 obtain⟨env4,hw4,hid4,hyv4,hargs4,hq4,hpost⟩:=hK0;obtain⟨β4,hst4'⟩:=hw4 (vz X W) β' a4 W4 rfl hst4;have hg4:W.grownBy W4 none:=vz.grown hst4.inv;have hst5:=hst4'.again (W2:=W4) (X:=X) (Ext.refl _) hid4 (fun b o h=>cp (hst.inv.low b o h).1 hg4.size) (fun b o v h h'=>⟨h,h'⟩);have hJ4:=hJ.jn _ _ _ _ hJn hg4;rw[cg,show 1+post.length=post.length+1 by omega,dL];rw[wpOpsIn];rw[g6];simp only;have hwant:Region.wanted o6 (yielded ops a4.tmps)=true:=by
  simp only[Region.wanted,hgd6];rw[Ag hst5 hj6 hq4];simp
 rw[ah hwant];refine⟨fun _ _=>trivial,?_⟩;have hnd:∀c,o6.op≠ .defer c:=by rw[hop6];simp
 have hyv:a4.eval g=.func (.yield l) #[] #[]:=by
  have:=hst5.ev g;rw[hyv4]at this;exact qc this
 rw[ec _ _ _ hnd,Ed (l:=l) hop6 hcal hyv];have hoks:AV.ir (fun _=>.no) X W4 ((els.getD n []).map .d) (cl.args.map a4.eval).toList:=by
  have:=yZ hst5 args;rw[hargs4,vz.gX]at this;rw[hx.1,dB,hargs6];exact this
 obtain⟨fn',tmps',dz',bd',hy,hR⟩:=hJ.round n X W4 _ hnl hJ4 hoks;rw[hy,Oper.uponIn_round];refine⟨(fun h=>by cases h),RoundIn.mono hR ?_⟩;rintro e5 W5 ⟨X5,hres5,hX5,hk5⟩;obtain⟨bb,rfl,hJ5⟩:∃bb,e5=.returned (.bool bb)/\Live els J Jx (n+1) X5 W5 (if bb then some r else none):=by
  rcases hres5 with⟨h1,h2⟩|⟨h1,h2⟩
  ·exact⟨true,h1,hnl,hx.2,h2⟩
  ·exact⟨false,h1,n,hnl,h2⟩
 show wpOpsIn Fence.wide 0 P ops _ (List.range' (pre.length+1) post.length) (a4.put o6.dst (.bool bb)) W5;rw[hdst6];have hst6:St (vz X5 W5) (fun _=>.no) (env4.set d (.d (bD bb))) [] (a4.put (some d) (.bool bb)) W5:=
  (hst5.again (Ext.refl _) hid4 hX5 hk5).put (x:=.d (bD bb)) (v:=.bool bb) (by simp[AV.ok,bD,D.ok,one]) (some d)
 have:=yb (C:=vz X5 W5) (Q:=fun e a' W'=>∃n' X' env' r',St (vz X' W') (fun _=>.no) env' [] a' W'/\Live els J Jx n' X' W' r'/\Q e env' r') (m:=0) post.length (pre.length+1) post _ [] (by rw[hlen];omega) (by rw[bH (by simp;omega)];exact t4) (hpost bb) _ _ W5 hst6 fun β' env' s' a7 W7 hst7 hK0=>?_
 ·rw[dg]at this;exact this
 obtain⟨env7,hw7,hid7,hQ7⟩:=hK0;obtain⟨β7,hst7'⟩:=hw7 (vz X5 W5) β' a7 W7 rfl hst7;have hg7:W5.grownBy W7 none:=vz.grown hst7.inv;have hst8:=hst7'.again (W2:=W7) (X:=X5) (Ext.refl _) hid7 (fun b o h=>cp (hX5 b o h) hg7.size) (fun b o v h h'=>⟨h,h'⟩);exact⟨n+1,X5,env7,_,hst8,hJ5.grow hJ hg7,hQ7⟩
def AV.QG(id:Nat)(ds:List D):AV->AV
 |.ptr j off=>if j=id then .pv (ds.drop off)else .ptr j off
 |x=>x.jW (ic id)
theorem ij.QG{k:Nat}{env:List AV}{s:gU}(id:Nat){t:Nat}{ds:List D}(hid:k<=id)(ho:sat s id=.obj t (ds.map .d)):ij k env s (env.map (AV.QG id ds)) (iW id s):=fun C β a w hC hst=>by
 subst hC;have hi:=hst.inv;have hob:=hi.obs id;rw[ho]at hob;obtain⟨b,us,hb,hh,hone,pre,rst,hus,hpre⟩:=hob;have h2:=hi.kill id hid;have hblk:gR β s id b:=by unfold gR;rw[ho];exact hb
 have hnot:∀o,¬C.gX (gY β id .no) (iW id s) b o:=fun o hq=>by
  rcases hq with hq|hq
  ·have h1:=hi.low b o hq;have hown:own β s b o:=⟨id,by rw[ho];exact hb⟩;rcases hi.n_ b o hown with h3|h3
   ·exact h1.2 h3
   ·omega
  ·obtain⟨j,hj⟩:=hq.block;have hj1:=rY hj;have hji:j≠id:=fun e=>by subst e;unfold gR at hj;rw[oC,ah rfl]at hj;exact hj
   exact hji (hi.inj j id b hj1 hblk)
 have dm:∀{x:D}{u:Value},D.ok (C.gX β s) w x u->D.ok (C.gX (gY β id .no) (iW id s)) w x u:=fun{x u} hx=>D.iN (fun b o v hc hn'=>⟨hc,fun h=>hn' (h.imp (fun x=>x) tq)⟩) _ _ hx
 refine⟨_,hst.defers,h2,by rw[aK];exact hst.len,fun i x hx=>?_⟩;rw[bq]at hx;obtain⟨y,hy,rfl⟩:=ay.1 hx;have hyo:=hst.env i y hy;have gen:∀z:AV,(∀j off,z≠ .ptr j off)->AV.QG id ds z=z.jW (ic id):=fun z hz=>by
  cases z<;>first|rfl|exact absurd rfl (hz _ _)
 by_cases hp:∃j off,y=.ptr j off
 ·obtain⟨j,off,rfl⟩:=hp;simp only[AV.QG];by_cases hj:j=id
  ·subst hj;rw[ah rfl];simp only[AV.ok]at hyo;obtain⟨b2,hb2,hv⟩:=hyo;rw[hb]at hb2;cases hb2;rw[hv];have hl:=AV.iC hpre;have hp2:=(AV.je.1 hpre).2;refine⟨b,off,pre.drop off,rfl,fun q u hq=>?_,?_⟩
   ·rw[cE]at hq;have hq2:us.toList[off+q]?=some u:=by rw[hus,aT (aL.1 hq).1];exact hq
    refine⟨?_,hnot _,hone u (bO hq2)⟩;simp only[World.cell?,hh,cx,aj,aF];simpa using hq2
   ·refine D.je.2 ⟨by simp at hl;simp[hl],fun q x u hx hu=>?_⟩;rw[cE]at hx hu;have hu2:us.toList[off+q]?=some u:=by rw[hus,aT (aL.1 hu).1];exact hu
    refine⟨hone u (bO hu2),?_⟩;have:=hp2 (off+q) (.d x) u (by rw[bq,hx];rfl) hu;simp only[AV.ok]at this;exact dm this
  ·rw[ak hj];have:=tV (id:=id) hyo;simpa only[AV.jW,ic,ak hj]using this
 ·rw[gen y fun j off e=>hp ⟨j,off,e⟩];exact tV hyo
section
variable{id:Nat}{ds:List D}
theorem NF:AV.QG id ds .gW=.gW:=(rfl)
theorem XO{x:D}:AV.QG id ds (.d x)=.d x:=(rfl)
theorem Uo{xs:List D}:AV.QG id ds (.pv xs)=.pv xs:=(rfl)
theorem QH{j off:Nat}:AV.QG id ds (.ptr j off)=if j=id then .pv (ds.drop off)else .ptr j off:=(rfl)
end
attribute [go_sem] NF XO Uo QH iW
mutual
inductive JZ(tl:List (Nat×Nat×List D)):AV->D->Prop
 |lit {u:Value}:JZ tl (.d (.lit u)) (.lit u)
 |kL {e id n:Nat} {ds:List D} (h:uw (toks tl) id e ds) (hn:n=ds.length):JZ tl (.kL e id n) (.sl e none ds)
 |agg {xs:List AV} {ds:List D} (h:Ff tl xs ds):JZ tl (.agg xs) (.agg ds)
inductive Ff(tl:List (Nat×Nat×List D)):List AV->List D->Prop
 |nil:Ff tl [] []
 |cons {x:AV} {a:D} {xs:List AV} {ds:List D} (h:JZ tl x a) (hs:Ff tl xs ds):Ff tl (x::xs) (a::ds)
end
mutual
theorem JZ.ok{C:Ctx}{β β2:gZ}{tl:List (Nat×Nat×List D)}{w:World}(h:Inv C β (toks tl) w):∀{x:AV}{a:D}{v:Value},JZ tl x a->AV.ok β (C.gX β (toks tl)) w x v->D.ok C.O w a v
 |_,_,v,.lit,hv=>by simp only[AV.ok,D.ok]at hv⊢;exact hv
 |_,_,v,.kL hw hn,hv=>Ga h hw hn hv
 |_,_,v,.agg hl,hv=>by
  simp only[AV.ok]at hv;obtain⟨vs,rfl,h1,h2⟩:=hv;simp only[D.ok];exact⟨vs,rfl,Ff.ir (β2:=β2) h hl h1 h2⟩
theorem Ff.ir{C:Ctx}{β β2:gZ}{tl:List (Nat×Nat×List D)}{w:World}(h:Inv C β (toks tl) w):∀{xs:List AV}{ds:List D}{vs:List Value},Ff tl xs ds->(∀u∈vs,one u=true)->AV.ir β (C.gX β (toks tl)) w xs vs->D.ir C.O w ds vs
 |_,_,vs,.nil,_,hv=>by simpa[AV.ir,D.ir]using hv
 |_,_,vs,.cons hl hs,h1,hv=>by
  simp only[AV.ir]at hv;obtain⟨v,r,rfl,h2,h3⟩:=hv;simp only[D.ir];exact⟨v,r,rfl,h1 v (by simp),JZ.ok (β2:=β2) h hl h2,Ff.ir (β2:=β2) h hs (fun u hu=>h1 u (by simp[hu])) h3⟩
end
theorem h_.pub{P:Program}{f:Nat}{dz:List D}{y:AV}{t:gU}{tl:List (Nat×Nat×List D)}{r:D}(hc:h_ P f (dz.map .d) [] 0 fun x s'=>x=y/\s'=t)(ht:t=toks tl)(hp:JZ tl y r):jF P f dz r:=fun C vs hs hk hinv hargs=>by
 subst ht;refine(hc C vs hs hk hinv hargs).mono ?_;rintro e w' ⟨v,x,β',s',rfl,hi,hx,rfl,rfl⟩;refine⟨v,.d r,fun _=>.no,[],rfl,⟨hi.size,hi.io,hi.gl,hi.keep,hi.oE,fun b o ⟨id,h⟩=>h.elim,fun id b h=>h.elim,fun id hid=>by omega,hi.low,fun id=>rfl,fun i j b h=>h.elim⟩,?_,rfl⟩;have h1:=JZ.ok (β2:=β') hi hp hx;simp only[AV.ok];exact D.iN (fun b o v hc hn=>⟨hc,fun h=>hn (h.elim (fun h=>h) fun⟨_,h⟩=>h.elim)⟩) r v h1
theorem JZ.tok{α:Type}{f:α->D}{e n id:Nat}{xs:List α}{tl:List (Nat×Nat×List D)}[sU f e][Cl f](h:sat (toks tl) id=.lN e n (jw (xs.map f)))(hn:n=xs.length):JZ tl (.kL e id n) (gS e f xs):=
 .kL (uw.of h hn) (by rw[hn,aK])
theorem D_{α:Type}{f:α->D}[JX f]:∀xs:List α,List.map (aD f) xs=jw (xs.map f)
 |[]=>rfl
 |x::xs=>by
  rw[aN,aN,zl,D_ xs];have:=JX.lit (f:=f) x;cases h:f x with
  |lit u=>simp only[gT,aN,dy,yO,aD,h];rfl
  |_=>rw[h]at this;cases this
theorem QV{i:Nat}{o:Ob}{s:gU}:sat ((i,o)::s) i=o:=by simp[sat]
theorem NY{i j:Nat}{o:Ob}{s:gU}(h:j≠i):sat ((i,o)::s) j=sat s j:=by simp[sat,h]
theorem QW{j:Nat}:sat [] j=.dead:=rfl
theorem N7{i:Nat}{o x:Ob}{s:gU}:sset ((i,o)::s) i x=(i,x)::s:=by simp[sset]
theorem Q5{i j:Nat}{o x:Ob}{s:gU}(h:i<j):sset ((j,o)::s) i x=(i,x)::(j,o)::s:=by simp[sset,h,Nat.ne_of_lt h]
theorem Q4{i j:Nat}{o x:Ob}{s:gU}(h:j<i):sset ((j,o)::s) i x=(j,o)::sset s i x:=by simp[sset,Nat.ne_of_gt h,Nat.not_lt_of_gt h]
theorem N8{i:Nat}{x:Ob}:sset [] i x=[(i,x)]:=rfl
attribute [go_sem] QV NY QW N7 Q5 Q4 N8
theorem T6{P:Program}{k:Nat}{Q:Post}{env:List AV}{s:gU}{x:gV}(ws:List Nat)(h:ng P k x Q (pM env ws) s)(hw:ij k env s (pM env ws) s:=by(try dsimp only);exact wk):ng P k x Q env s:=T9 hw h
theorem MW{P:Program}{ρ:Go.Shelf.Ren}(L:Go.Proofs.Lays8.n4 P ρ){i0:TypeInfo}{z:Value}(hi0:P.info? (ρ.t 25)=some i0)(hz0:i0.zero=some z)(hs0:0<i0.size)(hb0:0<i0.bytes)
 (hz1:z.cells.size=i0.size) (hz2:∀v∈z.cells.toList,one v=true) {n:Int} (h0:0<=n) (hb:n*i0.bytes<=140737488355328):
 h_ P (ρ.f 4) [.d (.sl 0 (some true) []),.d (iD n)] [] 0 fun x s'=>x=.own i0.size 0 []/\s'=[(0,.tok (ρ.t 25) i0.size 0)]:=fun C vs hs hk hinv hargs=>by
 obtain⟨m,rfl⟩:=Int.eq_ofNat_of_zero_le h0;have hst:St C C.β [] C.s {tmps:=#[],defers:=[]} C.w:=⟨.nil,hinv,rfl,fun i x hx=>by simp at hx⟩;have hvs:vs=#[.slice none 0 0,.int .i64 m]:=by
  simp only[AV.ir,AV.ok]at hargs;obtain⟨v,r,h1,h2,v2,r2,h3,h4,h5⟩:=hargs;have h2:=CF h2;have h4:=qc (β:=C.β) (O:=C.gX C.β C.s) (w:=C.w) (by simp only[AV.ok];exact h4);subst h2 h4 h5 h3;exact cP (by simpa[sJ]using h1)
 subst hvs;have hd:sat C.s 0=.dead:=by rw[hs];rfl
 rcases fD m with rfl|hm
 ·refine(Go.Proofs.Any8.slices_Grow_room L none 0 0 0 C.w (aC _) gN gN gN).mono ?_;rintro e w' ⟨rfl,rfl⟩;obtain⟨h1,_⟩:=hst.CX (id:=0) (t:=ρ.t 25) (e:=i0.size) hd;rw[hs]at h1;exact⟨_,.own i0.size 0 [],_,_,rfl,h1.inv,BI (by simp[gY]),rfl,rfl⟩
 ·have hmb:m*i0.bytes<=140737488355328:=by
   have:((m*i0.bytes:Nat):Int)<=140737488355328:=by simpa using hb
   omega
  have hm47:m<=140737488355328:=cI (cU _ hb0) hmb;refine(Go.Proofs.Any8.slices_Grow_grow L i0 z hi0 hz0 hs0 none 0 0 m [] C.w (aC _) gN (by simpa using hmb) gN (by simp) (by simp) (by simp)).mono ?_;rintro e w' ⟨rfl,rfl⟩;have hcap1:=grownCap_ge C.w (0+m) 0 (ρ.t 25);have hcap2:=eT C.w (0+m) 0 (ρ.t 25) (by unfold Go.maxLen;omega);obtain⟨β',h1,h2⟩:=wO hst.drew (id:=0) (t:=ρ.t 25) (e:=i0.size) (n:=0) (cap:=grownCap C.w (0+m) 0 (ρ.t 25))
   (c:=([]:List Value).toArray++Builtin.zeroCells z.cells (0+m-0)++Builtin.zeroCells z.cells (grownCap C.w (0+m) 0 (ρ.t 25)-(0+m))) (xs:=[])
   (by have:=hst.inv.obs 0;rw[hd]at this;rw[show C.β 0=.no from this];trivial)
   (by
    rw[dV,dV,fA,fA,hz1];simp only[dH,bQ,cg,Nat.sub_zero];rw[<-bT];congr 1;simp only[cg]at hcap1;omega)
   (cQ _) (by unfold Go.maxLen at hcap2;omega)
   (fun v hv=>by
    simp only[Array.toList_append,aH]at hv;rcases hv with(hv|hv)|hv
    ·simp at hv
    ·exact qN hz2 _ v hv
    ·exact qN hz2 _ v hv)
   rfl (fun _ _ _ _=>by simp[D.row])
  rw[hs]at h1 h2;exact⟨_,.own i0.size 0 [],β',_,rfl,h1.inv,h2,rfl,rfl⟩
end lY
