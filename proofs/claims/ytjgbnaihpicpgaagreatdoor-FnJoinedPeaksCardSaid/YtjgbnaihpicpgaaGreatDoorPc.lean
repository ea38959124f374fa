/- A part of the proof about FnJoinedPeaks (LaShal, LaLend, LaDeep, LaSplit, LaIter, LaThaw, GJ, Grow). -/
import Derived.Test.YtjgbnaihpicpgaaGreatDoorPb
import Derived.KernelRfl
import Derived.Shelf.Spec.SlicesGrow
set_option linter.all false
noncomputable section
namespace mm
open Go
def DL(x y:D):Prop:=∀O w v,D.ok O w x v->D.ok O w y v
def Uu:List D->List D->Prop
 |[],[]=>True
 |x::xs,y::ys=>DL x y/\Uu xs ys
 |_,_=>False
theorem DL.refl(x:D):DL x x:=fun _ _ _ h=>h
theorem DL.forget{e:Nat}{nl:Option Bool}{xs:List D}:DL (.sl e nl xs) (.sl e none xs):=fun _ _ _ h=>by
 simp only[D.ok]at h⊢;obtain⟨a,cap,h1,h2,_,h4⟩:=h;exact⟨a,cap,h1,h2,trivial,h4⟩
theorem DL.nil{e e':Nat}{nl:Option Bool}:DL (.sl e nl []) (.sl e' none []):=fun _ _ _ h=>by
 simp only[D.ok]at h⊢;obtain⟨a,cap,h1,h2,_,h4⟩:=h;exact⟨a,cap,h1,h2,trivial,by simp⟩
theorem Uu.iK{O:Own}{w:World}:∀{xs ys:List D}{vs:List Value},Uu xs ys->D.iK O w xs vs->D.iK O w ys vs
 |[],[],_,_,h=>h
 |_::_,_::_,_,hl,h=>by
  simp only[D.iK]at h⊢;obtain⟨v,r,h1,h2,h3,h4⟩:=h;exact⟨v,r,h1,h2,hl.1 _ _ _ h3,Uu.iK hl.2 h4⟩
 |[],_::_,_,hl,_=>hl.elim
 |_::_,[],_,hl,_=>hl.elim
theorem DL.agg{xs ys:List D}(h:Uu xs ys):DL (.agg xs) (.agg ys):=fun _ _ _ hv=>by
 simp only[D.ok]at hv⊢;obtain⟨vs,h1,h2⟩:=hv;exact⟨vs,h1,h.iK h2⟩
theorem AV.xO{x y:D}(h:DL x y):AV.le (.d x) (.d y):=fun _ _ _ _ hv=>by simp only[AV.ok]at hv⊢;exact h _ _ _ hv
theorem AV.Rs{e id:Nat}{xs:List D}{y:D}(h:DL (.sl e none xs) y):AV.le (.own e id xs) (.d y):=fun _ _ _ _ hv=>by simp only[AV.ok]at hv⊢;exact h _ _ _ hv.1
theorem AV.Ao{xs ys:List AV}(h:iS xs ys):AV.le (.agg xs) (.agg ys):=fun _ _ _ _ hv=>by
 simp only[AV.ok]at hv⊢;obtain⟨vs,h1,h2,h3⟩:=hv;exact⟨vs,h1,h2,h.iK h3⟩
theorem A7{β:iE}{O:Own}{w:World}:∀{ys:List D}{vs:List Value},(∀u∈vs,one u=true)->AV.iK β O w (ys.map .d) vs->D.iK O w ys vs
 |[],_,_,h=>by simpa[AV.iK,D.iK]using h
 |y::ys,vs,h1,h=>by
  simp only[aP,AV.iK,D.iK]at h⊢;obtain⟨v,r,rfl,h2,h3⟩:=h;exact⟨v,r,rfl,h1 v (by simp),by simpa[AV.ok]using h2,A7 (fun u hu=>h1 u (by simp[hu])) h3⟩
theorem AV.we{xs:List AV}{ys:List D}(h:iS xs (ys.map .d)):AV.le (.agg xs) (.d (.agg ys)):=fun _ _ _ _ hv=>by
 simp only[AV.ok,D.ok]at hv⊢;obtain⟨vs,h1,h2,h3⟩:=hv;exact⟨vs,h1,A7 h2 (h.iK h3)⟩
theorem AV.yT{xs ys:List AV}(h:iS xs ys):AV.le (.mj xs) (.mj ys):=fun _ _ _ _ hv=>by
 simp only[AV.ok]at hv⊢;obtain⟨vs,h1,h3⟩:=hv;exact⟨vs,h1,h.iK h3⟩
theorem IX{e e':Nat}{nl:Option Bool}:AV.le (.d (.sl e nl [])) (.d (.sl e' none []))<->True:=⟨fun _=>trivial,fun _=>AV.xO DL.nil⟩
theorem F9(x:D):DL x x<->True:=⟨fun _=>trivial,fun _=>DL.refl x⟩
theorem HW{e e':Nat}{nl:Option Bool}:DL (.sl e nl []) (.sl e' none [])<->True:=⟨fun _=>trivial,fun _=>DL.nil⟩
theorem LX{xs:List AV}{ys:List D}(h:iS xs (ys.map .d)):AV.le (.agg xs) (.d (.agg ys))<->True:=⟨fun _=>trivial,fun _=>AV.we h⟩
theorem On{xs ys:List AV}(h:iS xs ys):AV.le (.mj xs) (.mj ys)<->True:=⟨fun _=>trivial,fun _=>AV.yT h⟩
def Zv(x y:AV):Prop:=x=y\/((∀d,x≠ .dp d)/\(∀d,y≠ .dp d)/\AV.le x y)\/∃e0 e,x=.d (.sl e0 (some true) [])/\y=.dp (.sl e none [])
def AD:List AV->List AV->Prop
 |[],[]=>True
 |x::xs,y::ys=>Zv x y/\AD xs ys
 |_,_=>False
theorem AD.refl:∀xs:List AV,AD xs xs
 |[]=>trivial
 |x::xs=>⟨.inl rfl,AD.refl xs⟩
theorem AD.length:∀{xs ys:List AV},AD xs ys->xs.length=ys.length
 |[],[]=>fun _=>rfl
 |x::xs,y::ys=>fun h=>by simp[AD.length h.2]
 |[],_::_=>fun h=>h.elim
 |_::_,[]=>fun h=>h.elim
theorem Zv.nx{β:iE}{O:Own}{w:World}{x y:AV}{v:Value}{bs:List Nat}(h:Zv x y)(hx:NX β O w x v bs):NX β O w y v bs:=by
 rcases h with rfl|⟨h1,h2,h3⟩|⟨e0,e,rfl,rfl⟩
 ·exact hx
 ·exact hx.imp (x':=y) (fun _ _=>rfl) (.inr ⟨h1,h2,h3 _ _ _ _⟩)
 ·obtain⟨h1,h2⟩:=hx;have h1:AV.ok β O w (.d (.sl e0 (some true) [])) v:=h1;simp only[AV.ok,D.ok]at h1;obtain⟨a,cap,h3,h4,⟨rfl,rfl⟩,_⟩:=h1;show NV w (.sl e none []) v bs;simp only[NV];exact⟨none,0,h3,h4,trivial,.inl ⟨rfl,trivial,h2⟩⟩
theorem AD.nxs{β:iE}{O:Own}{w:World}:∀{xs ys:List AV}{vs:List Value}{bs:List Nat},AD xs ys->tJ β O w xs vs bs->tJ β O w ys vs bs
 |[],[]=>fun _ h=>h
 |x::xs,y::ys=>fun hl h=>by
  simp only[tJ]at h⊢;obtain⟨v,r,b1,b2,h1,h2,h3,h4⟩:=h;exact⟨v,r,b1,b2,h1,h2,hl.1.nx h3,AD.nxs hl.2 h4⟩
 |[],_::_=>fun h=>h.elim
 |_::_,[]=>fun h=>h.elim
def PN:List (Lit×D)->List (Lit×D)->Prop
 |[],[]=>True
 |(k,x)::r,(k',y)::r'=>k=k'/\AV.le (.d x) (.d y)/\PN r r'
 |_,_=>False
theorem PN.refl:∀es:List (Lit×D),PN es es
 |[]=>trivial
 |(_,_)::r=>⟨rfl,fun _ _ _ _ h=>h,PN.refl r⟩
theorem PN.get{kl:Lit}:∀{es es':List (Lit×D)},PN es es'->(yj es kl=none/\yj es' kl=none)\/∃x y,yj es kl=some x/\yj es' kl=some y/\AV.le (.d x) (.d y)
 |[],[],_=>.inl ⟨rfl,rfl⟩
 |(k,x)::r,(k',y)::r',h=>by
  obtain⟨rfl,h1,h2⟩:=h;unfold yj;by_cases hk:k=kl
  ·simp only[hk,aC];exact .inr ⟨x,y,rfl,rfl,h1⟩
  ·simp only[hk,aE];exact h2.get
 |[],_::_,h=>h.elim
 |_::_,[],h=>h.elim
theorem PN.ok{O:Own}{w:World}{P:Program}{k b:Nat}{es es':List (Lit×D)}(h:PN es es')(hm:AB O w P k es b):AB O w P k es' b:=by
 obtain⟨E,h1,h2⟩:=hm;refine⟨E,h1,fun kl=>?_⟩;have h3:=h2 kl;rcases h.get (kl:=kl)with⟨e1,e2⟩|⟨x,y,e1,e2,e3⟩
 ·rw[e1]at h3;rw[e2];exact h3
 ·rw[e1]at h3;rw[e2];obtain⟨v,k1,k2,k3⟩:=h3;exact⟨v,k1,k2,by have:=e3 (fun _=>.no) O w v (by simpa only[AV.ok]using k3);simpa only[AV.ok]using this⟩
def zJ:Ob->Ob->Prop
 |.dead,.dead=>True
 |.obj t cs,.obj t' cs'=>t=t'/\iS cs cs'
 |.tok t e n,.tok t' e' n'=>t=t'/\e=e'/\n=n'
 |.kQ t e n cs,.kQ t' e' n' cs'=>t=t'/\e=e'/\n=n'/\iS (cs.map .d) (cs'.map .d)
 |.pF t e n cs,.pF t' e' n' cs'=>t=t'/\e=e'/\n=n'/\AD cs cs'
 |.uq e n cs,.uq e' n' cs'=>e=e'/\n=n'/\AD cs cs'
 |.mp P k es,.mp P' k' es'=>P=P'/\k=k'/\PN es es'
 |_,_=>False
def kN:ij->ij->Prop
 |[],[]=>True
 |(i,x)::r,(j,y)::r'=>i=j/\zJ x y/\kN r r'
 |_,_=>False
theorem kN.sat:∀{s s':ij},kN s s'->∀id,zJ (mm.sat s id) (mm.sat s' id)
 |[],[],_,_=>trivial
 |(i,x)::r,(j,y)::r',h,id=>by
  obtain⟨rfl,h1,h2⟩:=h;simp only[mm.sat];split
  ·exact h1
  ·exact h2.sat id
 |[],_::_,h,_=>h.elim
 |_::_,[],h,_=>h.elim
theorem iS.Q2{O:Own}{w:World}:∀{xs ys:List D}{vs:List Value},iS (xs.map .d) (ys.map .d)->D.iK O w xs vs->D.iK O w ys vs
 |[],[],_,_,h=>h
 |x::xs,y::ys,_,hl,h=>by
  simp only[D.iK]at h⊢;obtain⟨v,r,h1,h0,h2,h3⟩:=h;refine⟨v,r,h1,h0,?_,iS.Q2 hl.2 h3⟩;have:=hl.1 (fun _=>.no) O w v (by simpa only[AV.ok]using h2);simpa only[AV.ok]using this
 |[],_::_,_,hl,_=>hl.elim
 |_::_,[],_,hl,_=>hl.elim
theorem iS.length':∀{xs ys:List D},iS (xs.map .d) (ys.map .d)->xs.length=ys.length
 |[],[],_=>rfl
 |x::xs,y::ys,hl=>by simp[iS.length' hl.2]
 |[],_::_,hl=>hl.elim
 |_::_,[],hl=>hl.elim
theorem Inv.told{C:Ctx}{β:iE}{s s':ij}{w:World}(h:Inv C β s w)(hs:∀id,zJ (sat s id) (sat s' id)):Inv C β s' w/\C.ir β s'=C.ir β s:=by
 have hown:∀b x,own β s' b x<->own β s b x:=fun b x=>by
  unfold own;refine exists_congr fun id=>?_
  have:=hs id;revert this;cases sat s id<;>cases sat s' id<;>intro h1<;>first|exact h1.elim|exact dc|skip
  ·obtain⟨_,rfl,rfl⟩:=h1;exact dc
  ·obtain⟨_,rfl,rfl,_⟩:=h1;exact dc
  ·obtain⟨_,rfl,rfl,_⟩:=h1;exact dc
  ·obtain⟨rfl,rfl,_⟩:=h1;exact dc
 have hblk:∀id b,ic β s' id b<->ic β s id b:=fun id b=>by
  unfold ic;have:=hs id;revert this;cases sat s id<;>cases sat s' id<;>intro h1<;>first|exact h1.elim|exact dc|skip
  ·obtain⟨_,rfl,rfl⟩:=h1;exact dc
  ·obtain⟨_,rfl,rfl,_⟩:=h1;exact dc
  ·obtain⟨_,rfl,rfl,_⟩:=h1;exact dc
  ·obtain⟨rfl,rfl,_⟩:=h1;exact dc
 have hf:C.ir β s'=C.ir β s:=by funext b o;exact propext (or_congr dc (hown b o))
 refine⟨⟨h.size,h.io,h.gl,h.keep,h.qq,fun b o ho=>h.pO b o ((hown b o).1 ho),fun id b hb=>h.tB id b ((hblk id b).1 hb),h.pl,h.low,fun id=>?_,
  fun i j b hi hj=>h.inj i j b ((hblk i b).1 hi) ((hblk j b).1 hj)⟩,hf⟩
 rw[hf];have h1:=h.obs id;have h2:=hs id;revert h1 h2;cases sat s id<;>cases sat s' id<;>intro h1 h2<;>first|exact h2.elim|exact h1|skip
 ·obtain⟨rfl,h2⟩:=h2;obtain⟨b,vs,h3,h4,h5,h6⟩:=h1;exact⟨b,vs,h3,h4,h5,h6.imp fun _ h=>h2.iK h⟩
 ·obtain⟨rfl,rfl,rfl⟩:=h2;exact h1
 ·obtain⟨rfl,rfl,rfl,h2⟩:=h2;obtain⟨u,h3,h4,h5⟩:=h1;refine⟨u,h3,h2.length'▸h4,?_⟩;rcases h5 with h5|⟨b,cap,vs,k1,k2,k3,k4,k5,k6,pre,rest,k7,k8⟩
  ·exact .inl h5
  ·exact .inr ⟨b,cap,vs,k1,k2,k3,k4,k5,k6,pre,rest,k7,h2.Q2 k8⟩
 ·obtain⟨rfl,rfl,rfl,h2⟩:=h2;obtain⟨u,bs,h3,h4,h5,h6⟩:=h1;refine⟨u,bs,h3,h4,h2.length▸h5,?_⟩;rcases h6 with h6|⟨b,cap,vs,k1,k2,k3,k4,k5,k6,k7,k8⟩
  ·exact .inl h6
  ·exact .inr ⟨b,cap,vs,k1,k2,k3,k4,k5,k6,k7,h2.nxs k8⟩
 ·obtain⟨rfl,rfl,h2⟩:=h2;obtain⟨u,bs,h3,h4,h5,h6⟩:=h1;refine⟨u,bs,h3,h4,h2.length▸h5,?_⟩;rcases h6 with h6|⟨b,cap,vs,t,k1,k2,k3,k4,k5,k6,k9,k7,k8⟩
  ·exact .inl h6
  ·exact .inr ⟨b,cap,vs,t,k1,k2,k3,k4,k5,k6,k9,k7,h2.nxs k8⟩
 ·obtain⟨rfl,rfl,h2⟩:=h2;obtain⟨b,h3,h4⟩:=h1;exact⟨b,h3,h2.ok h4⟩
theorem iL.V8{k:Nat}{env env':List AV}{s s':ij}(h:iS env env')(hs:kN s s'):iL k env s env' s':=fun C β a w hC hst=>by
 obtain⟨h1,hf⟩:=hst.inv.told hs.sat;obtain⟨h3,h4⟩:=h.get;exact⟨β,hst.defers,h1,by rw[hst.len,h3],fun i y hy=>by rw[hf];exact let⟨x,hx,hle⟩:=h4 i y hy;hle _ _ _ _ (hst.env i x hx)⟩
def zQ(id:Nat):ij->ij
 |[]=>[]
 |(j,x)::r=>if j=id then zQ id r else(j,x.kill id)::zQ id r
theorem Bc(id j:Nat):∀s:ij,sat (zQ id s) j=sat (jz id s) j
 |[]=>rfl
 |(i,x)::r=>by
  simp only[zQ,jz];by_cases h:i=id
  ·subst h;simp only[aC,sat,Bc i j r];split
   ·rename_i h2;subst h2;rw[qb];simp
   ·rfl
  ·simp only[h,aE,sat,Bc id j r]
theorem iL.drop{k:Nat}{env:List AV}{s:ij}(id:Nat)(hid:k<=id):iL k env s (AV.i_ (iM id) env) (zQ id s):=
 (iL.kill id hid).trans (iL.Uh fun j=>(Bc id j s).symm)
theorem nj.mono{P:Program}{k:Nat}{mc:ie}{Q Q':Post}{env:List AV}{s:ij}(h:nj P k mc Q env s)(hq:∀e env s,Q e env s->Q' e env s):nj P k mc Q' env s:=
 fun C hC hf c hc β a w hst=>dH (h C hC hf c hc β a w hst) fun e _ _ ⟨C',hx,β',env',s',h1,h2⟩=>⟨C',hx,β',env',s',h1,hq e env' s' h2⟩
def rj(P:Program)(k:Nat):ie->Post->List AV->ij->Prop
 |.skip,Q,env,s=>Q .normal env s
 |.h_ ms,Q,env,s=>vP P k (Q .normal) ms env s
 |.draw ms af,Q,env,s=>P.follows .mixedOrders=true/\uV P k (AJ ms af Q) ms [] env s
 |.seq a b,Q,env,s=>rj P k a (xD (fun env s=>rj P k b Q env s) Q) env s
 |.cond o a b,Q,env,s=>match ev env o with
  |.d (.lit (.bool t))=>if t=true then rj P k a Q env s else rj P k b Q env s
  |_=>False
 |.block id a,Q,env,s=>rj P k a (C9 id Q) env s
 |.loop x,Q,env,s=>nj P k (.loop x) Q env s
 |.exit id,Q,env,s=>Q (.exit id) env s
 |.ret,Q,env,s=>Q .ret env s
 |.dead,_,_,_=>False
 |.ghost x,Q,env,s=>∃env' s',iL k env s env' s'/\nj P k x Q env' s'
 |.Es g ps a b,Q,env,s=>nj P k (.Es g ps a b) Q env s
 |.scope a,Q,env,s=>rj P k a (Hh Q) env s
 |.label,Q,env,s=>Q .normal env s
theorem gZ{P:Program}{k:Nat}:∀{mc:ie}{Q:Post}{env:List AV}{s:ij},rj P k mc Q env s->nj P k mc Q env s
 |.skip,_,_,_,h=>Vg h
 |.h_ _,_,_,_,h=>aaJ h
 |.draw _ _,_,_,_,h=>XQ h.1 h.2
 |.seq a b,Q,env,s,h=>XU (nj.mono (gZ (mc:=a) h) fun e env s hq=>by
  cases e with
  |normal=>exact gZ (mc:=b) hq
  |_=>exact hq)
 |.cond o a b,Q,env,s,h=>by
  simp only[rj]at h;split at h
  ·rename_i t ht;refine U_ ht ?_;unfold Br;split at h
   ·rename_i hb;rw[ah hb];exact gZ (mc:=a) h
   ·rename_i hb;rw[ak hb];exact gZ (mc:=b) h
  ·exact h.elim
 |.block id a,_,_,_,h=>Rx (gZ (mc:=a) h)
 |.loop x,_,_,_,h=>h
 |.exit id,_,_,_,h=>Vb h
 |.ret,_,_,_,h=>XS h
 |.dead,_,_,_,h=>h.elim
 |.ghost x,_,_,_,h=>let⟨_,_,hw,h⟩:=h;RA hw h
 |.Es _ _ _ _,_,_,_,h=>h
 |.scope x,_,_,_,h=>RD (gZ (mc:=x) h)
 |.label,_,_,_,h=>RB h
def kj(P:Program)(k:Nat)(x:ie)(Q:Post)(env:List AV)(s:ij):Prop:=∃env' s',iL k env s env' s'/\nj P k x Q env' s'
theorem kj.of{P:Program}{k:Nat}{x:ie}{Q:Post}{env env':List AV}{s s':ij}(hw:iL k env s env' s')(h:rj P k x Q env' s'):kj P k x Q env s:=⟨_,_,hw,gZ h⟩
theorem kj.mw{P:Program}{k:Nat}{x:ie}{Q:Post}{env env':List AV}{s s':ij}(hw:iL k env s env' s')(h:nj P k x Q env' s'):kj P k x Q env s:=⟨_,_,hw,h⟩
def Au(P:Program)(k:Nat)(b:Bool)(x y:ie)(Q:Post)(env:List AV)(s:ij):Prop:=if b=true then rj P k x Q env s else rj P k y Q env s
def JD(P:Program)(k:Nat)(x y:ie)(Q:Post)(env:List AV)(s:ij):AV->Prop
 |.d (.lit (.bool b))=>Au P k b x y Q env s
 |_=>False
section
variable{P:Program}{k:Nat}{Q:Post}{env env':List AV}{s s':ij}{x y mc:ie}{b:Bool}
theorem PF:rj P k .skip Q env s=Q .normal env s:=(rfl)
theorem Sy{ms:List iJ}:rj P k (.h_ ms) Q env s=vP P k (Q .normal) ms env s:=(rfl)
theorem PC{ms:List iJ}{af:List gP}:rj P k (.draw ms af) Q env s=(P.follows .mixedOrders=true/\uV P k (AJ ms af Q) ms [] env s):=(rfl)
theorem SB:rj P k (.seq x y) Q env s=rj P k x (xD (rj P k y Q) Q) env s:=(rfl)
theorem Mn{id:Nat}:rj P k (.block id x) Q env s=rj P k x (C9 id Q) env s:=(rfl)
theorem Mq:rj P k (.scope x) Q env s=rj P k x (Hh Q) env s:=(rfl)
theorem Mp:rj P k .label Q env s=Q .normal env s:=(rfl)
theorem RP:Hh Q .ret env s=Q .ret env s:=(rfl)
theorem RN{id:Nat}:Hh Q (.exit id) env s=Q (.exit id) env s:=(rfl)
theorem PE:rj P k (.loop x) Q env s=nj P k (.loop x) Q env s:=(rfl)
theorem SA{g:Operand}{ps:List Nat}:rj P k (.Es g ps x y) Q env s=nj P k (.Es g ps x y) Q env s:=(rfl)
theorem Mo:rj P k (.ghost x) Q env s=kj P k x Q env s:=(rfl)
theorem PD{id:Nat}:rj P k (.exit id) Q env s=Q (.exit id) env s:=(rfl)
theorem Sz:rj P k .ret Q env s=Q .ret env s:=(rfl)
theorem PB{o:Operand}:rj P k (.cond o x y) Q env s=JD P k x y Q env s (ev env o):=by
 simp only[rj];split
 ·rename_i b h;rw[h];rfl
 ·rename_i h;unfold JD;split
  ·rename_i b h2;exact absurd h2 (h b)
  ·rfl
theorem Wd:Au P k true x y Q env s=rj P k x Q env s:=by simp[Au]
theorem Wc:Au P k false x y Q env s=rj P k y Q env s:=by simp[Au]
end
section
variable{P:Program}{k k0:Nat}{Q:Post}{K:List AV->ij->Prop}{env env':List AV}{s s':ij}{x y mc:ie}{b b' want:Bool}{m:sJ}{d:Option Nat}{ms:List iJ}
 {F:List (List Nat×List Nat)->List AV->ij->Prop} {acc acc':List (List Nat×List Nat)} {foot foot':List Nat}
@[congr] theorem Wb (he:env=env')(hs:s=s'):rj P k mc Q env s=rj P k mc Q env' s':=by rw[he,hs]
@[congr] theorem V2 (he:env=env')(hs:s=s'):nj P k mc Q env s=nj P k mc Q env' s':=by rw[he,hs]
@[congr] theorem VZ (hb:b=b'):Au P k b x y Q env s=Au P k b' x y Q env s:=by rw[hb]
@[congr] theorem VW {R:List AV->ij->Prop}{o o':Out}(h:o=o'):mz P k0 R d o=mz P k0 R d o':=by rw[h]
@[congr] theorem V0 (hb:b=b'):zm P k0 K b want m d ms env s=zm P k0 K b' want m d ms env s:=by rw[hb]
@[congr] theorem SZ {R:List AV->ij->Prop}{f:Nat}{args args':List AV}(ha:args=args')(he:env=env')(hs:s=s'):
 lM P k0 f args env s d R=lM P k0 f args' env' s' d R:=by rw[ha,he,hs]
@[congr] theorem Uj {o o':rA}(hf:foot=foot')(h:o=o'):lN P k0 F ms acc foot d env s o=lN P k0 F ms acc foot' d env s o':=by rw[h,hf]
@[congr] theorem V1 (hb:b=b'):yp P k0 F b want m d ms acc env s=yp P k0 F b' want m d ms acc env s:=by rw[hb]
@[congr] theorem SX {f:Nat}{args args':List AV}(ha:args=args'):nc P k0 F ms acc foot d env s f args=nc P k0 F ms acc foot d env s f args':=by rw[ha]
@[congr] theorem V4 {af:List gP}(ha:acc=acc')(he:env=env')(hs:s=s'):AJ ms af Q acc env s=AJ ms af Q acc' env' s':=by rw[ha,he,hs]
end
theorem NL{P:Program}{k0 f:Nat}{args env:List AV}{s:ij}{d:Option Nat}{R:List AV->ij->Prop}{dz:List D}{r:D}(hc:jU P f dz r)
 (ha:iS (args.map fun x=>x.kV (oz [])) (dz.map .d)) (hk:R (iU d env (.d r)) s):lM P k0 f args env s d R:=zw (Gt ha hc hk)
theorem Lm{P:Program}{k0 f:Nat}{args env:List AV}{s:ij}{d:Option Nat}{R:List AV->ij->Prop}{dz:List D}{rs:List D}(hc:oH P f dz rs)
 (ha:iS (args.map fun x=>x.kV (oz [])) (dz.map .d)) (hk:R (iU d env (.mj (rs.map .d))) s):lM P k0 f args env s d R:=zw (Ez ha hc hk)
theorem NJ{P:Program}{k0:Nat}{F:List (List Nat×List Nat)->List AV->ij->Prop}{ms:List iJ}{acc:List (List Nat×List Nat)}{foot:List Nat}{d:Option Nat}{env:List AV}{s:ij}
 {f:Nat} {args:List AV} {dz:List D} {r:D} (hc:jU P f dz r) (ha:iS (args.map fun x=>x.kV (oz [])) (dz.map .d))
 (hk:uV P k0 F ms ((foot,[])::acc) (iU d env (.d r)) s):nc P k0 F ms acc foot d env s f args:=.inl ⟨_,ha,.inl ⟨r,hc,hk⟩⟩
theorem Ll{P:Program}{k0:Nat}{F:List (List Nat×List Nat)->List AV->ij->Prop}{ms:List iJ}{acc:List (List Nat×List Nat)}{foot:List Nat}{d:Option Nat}{env:List AV}{s:ij}
 {f:Nat} {args:List AV} {dz rs:List D} (hc:oH P f dz rs) (ha:iS (args.map fun x=>x.kV (oz [])) (dz.map .d))
 (hk:uV P k0 F ms ((foot,[])::acc) (iU d env (.mj (rs.map .d))) s):nc P k0 F ms acc foot d env s f args:=.inl ⟨_,ha,.inr ⟨rs,hc,hk⟩⟩
theorem kH.jC{P:Program}{f:Nat}{mc:ie}{n:Nat}{rs:List tc}(h:kH P f mc n rs){args:List D}{r:D}
 (hm:nj P 0 mc (GI rs fun x _=>AV.le x (.d r)) (args.map .d++List.replicate (n-(args.map AV.d).length) .ig) []):jU P f args r:=
 (h.calls hm).mono fun _ _ hx=>⟨_,hx,rfl⟩
theorem kH.pg{P:Program}{f:Nat}{mc:ie}{n:Nat}{rs:List tc}(h:kH P f mc n rs){args:List D}{ds:List D}
 (hm:nj P 0 mc (GI rs fun x _=>AV.le x (.mj (ds.map .d))) (args.map .d++List.replicate (n-(args.map AV.d).length) .ig) []):oH P f args ds:=
 (h.calls hm).mono fun _ _ hx=>⟨_,hx,rfl⟩
def tK{σ β:Type}(f:σ->Option (σ⊕β)):Nat->σ->β->Prop
 |0,_,_=>False
 |n+1,s,b=>f s=some (.inr b)\/∃s',f s=some (.inl s')/\tK f n s' b
theorem tK.det{σ β:Type}{f:σ->Option (σ⊕β)}:∀{n m:Nat}{s:σ}{b c:β},tK f n s b->tK f m s c->b=c
 |0,_,_,_,_,h,_=>h.elim
 |_+1,0,_,_,_,_,h=>h.elim
 |n+1,m+1,s,b,c,h1,h2=>by
  rcases h1 with h1|⟨s1,h1,h3⟩<;>rcases h2 with h2|⟨s2,h2,h4⟩<;>rw[h1]at h2<;>cases h2
  ·rfl
  ·exact tK.det h3 h4
open Classical in
def iw{σ β:Type}(f:σ->Option (σ⊕β))(s:σ):Option β:=if h:∃b n,tK f n s b then some (choose h)else none
theorem qC{σ β:Type}{f:σ->Option (σ⊕β)}{s:σ}{b:β}(h:iw f s=some b):∃n,tK f n s b:=by
 unfold iw at h;split at h
 ·rename_i hx;cases h;exact eF hx
 ·cases h
theorem tK.iw{σ β:Type}{f:σ->Option (σ⊕β)}{n:Nat}{s:σ}{b:β}(h:tK f n s b):iw f s=some b:=by
 have hx:∃b n,tK f n s b:=⟨b,n,h⟩;unfold mm.iw;rw[dif_pos hx];obtain⟨m,hm⟩:=eF hx;rw[hm.det h]
theorem iz{σ β:Type}{f:σ->Option (σ⊕β)}{s:σ}{b:β}(h:f s=some (.inr b)):iw f s=some b:=tK.iw (n:=1) (.inl h)
theorem iI{σ β:Type}{f:σ->Option (σ⊕β)}{s s':σ}(h:f s=some (.inl s')):iw f s=iw f s':=by
 cases hx:iw f s' with
 |some b=>obtain⟨n,hn⟩:=qC hx;exact tK.iw (n:=n+1) (.inr ⟨s',h,hn⟩)
 |none=>
  cases hy:iw f s with
  |none=>rfl
  |some b=>
   obtain⟨n,hn⟩:=qC hy;cases n with
   |zero=>exact hn.elim
   |succ n=>
    rcases hn with hn|⟨s2,h2,h3⟩
    ·rw[h]at hn;cases hn
    ·rw[h]at h2;cases h2;rw[h3.iw]at hx;cases hx
theorem um{P:Program}{k:Nat}{Q:Post}{env:List AV}{s:ij}{x:ie}{σ β:Type}{f:σ->Option (σ⊕β)}{s0:σ}{b:β}(hb:iw f s0=some b)
 (ws:List Nat) (vs:σ->List (Nat×AV)) (S:σ->ij) (hw:iL k env s (oF (qm env ws) (vs s0)) (S s0))
 (round:∀p t,f p=some t->(∀b',t=.inr b'->b'=b)->nj P k x (xD (fun env' s'=>∃p',t=.inl p'/\iL k env' s' (oF (qm env ws) (vs p')) (S p')) Q)
  (oF (qm env ws) (vs p)) (S p)):nj P k (.loop x) Q env s:=by
 obtain⟨n,hn⟩:=qC hb;refine RC ws (fun p:Nat×σ=>vs p.2) (fun p=>S p.2) (fun p=>tK f p.1 p.2 b) (·.1) (n,s0) hn hw ?_;rintro⟨m,p⟩ hm;cases m with
 |zero=>exact hm.elim
 |succ m=>
  rcases hm with hm|⟨p',hm,hr⟩
  ·refine(round p _ hm fun b' hb'=>by cases hb';rfl).mono fun e env s hq=>?_
   cases e with
   |normal=>obtain⟨p',hp,_⟩:=hq;cases hp
   |_=>exact hq
  ·refine(round p _ hm fun b' hb'=>by cases hb').mono fun e env s hq=>?_
   cases e with
   |normal=>obtain⟨p2,hp,hw⟩:=hq;cases hp;exact⟨(m,p'),hr,dw m,hw⟩
   |_=>exact hq
theorem xo{α:Type}{p:Prop}[Decidable p]{a:Option α}{r:α}(h:(if p then a else none)=some r):p/\a=some r:=by
 split at h
 ·rename_i hp;exact⟨hp,h⟩
 ·cases h
theorem DB{α:Type}{c:Bool}{a b:Option α}{r:α}(h:(if c=true then a else b)=some r):(c=true/\a=some r)\/(c=false/\b=some r):=by
 cases c with
 |true=>exact .inl ⟨rfl,by simpa using h⟩
 |false=>exact .inr ⟨rfl,by simpa using h⟩
theorem bind_some{α β:Type}{x:Option α}{K:α->Option β}{r:β}(h:x.bind K=some r):∃a,x=some a/\K a=some r:=au.1 h
theorem iZ{σ β:Type}{x:Option β}{t:σ⊕β}{b:β}(h:x.map Sum.inr=some t)(hb:∀b',t=.inr b'->b'=b):x=some b:=by
 cases x with
 |none=>cases h
 |some c=>cases h;rw[hb c rfl]
open Classical in
def K9{α β:Type}(xs:List α)(a b:Option β):Option β:=if xs=[]then(if a=b then b else none)else b
theorem Gh{α β:Type}{xs:List α}{a b:Option β}{r:β}(h:K9 xs a b=some r):(xs=[]->a=some r)/\b=some r:=by
 unfold K9 at h;split at h
 ·split at h
  ·rename_i h1;exact⟨fun _=>h1.trans h,h⟩
  ·cases h
 ·rename_i hx;exact⟨fun he=>absurd he hx,h⟩
open Classical in
def Cx{α:Type}(f:Nat->Option α):Option α:=if h:∃a n,f n=some a then some (choose h)else none
theorem t_{α:Type}{f:Nat->Option α}{a:α}(h:Cx f=some a):∃n,f n=some a:=by
 unfold Cx at h;split at h
 ·rename_i hx;cases h;exact eF hx
 ·cases h
theorem Kj{α:Type}{f:Nat->Option α}{a:α}(n:Nat)(h:f n=some a)(hu:∀m b,f m=some b->b=a):Cx f=some a:=by
 have hx:∃a n,f n=some a:=⟨a,n,h⟩;unfold Cx;rw[dif_pos hx];obtain⟨m,hm⟩:=eF hx;rw[hu m _ hm]
theorem yW{p q:Prop}(hp:p)(hq:q):p/\q:=⟨hp,hq⟩
def Oz(n off:Nat)(ag:Bool)(K:AV->Prop):Ob->Prop
 |.obj _ cs=>off+n<=cs.length/\K (KK n off cs ag)
 |_=>False
theorem LY{n id off:Nat}{ag:Bool}{s:ij}{K:AV->Prop}:qZ n ag (.ptr id off) s K=Oz n off ag K (sat s id):=by
 simp only[qZ];cases sat s id with
 |obj t cs=>cases ag<;>rfl
 |_=>rfl
attribute [go_sem] Oz LY
theorem Px:AV.qE []=some []:=rfl
theorem Mk{x:D}{xs:List AV}:AV.qE (.d x::xs)=(AV.qE xs).map (x::·):=rfl
theorem Py{e id:Nat}{ys:List D}{xs:List AV}:AV.qE (.own e id ys::xs)=none:=rfl
theorem Pz{id off:Nat}{xs:List AV}:AV.qE (.ptr id off::xs)=none:=rfl
theorem Pw{e id off len:Nat}{xs:List AV}:AV.qE (.pV e id off len::xs)=none:=rfl
theorem Su{f:Nat}{a b xs:List AV}:AV.qE (.fn f a b::xs)=none:=rfl
theorem Mm{xs:List AV}:AV.qE (.ig::xs)=none:=rfl
theorem Pu{ys xs:List AV}:AV.qE (.agg ys::xs)=none:=rfl
def mkO(cs:List AV):Option (List D)->AV
 |some ds=>.d (.agg ds)
 |none=>.agg cs
theorem Vl:AV.mk []=.d (.agg []):=rfl
theorem RF{x:AV}{xs:List AV}:AV.mk (x::xs)=mkO (x::xs) (AV.qE (x::xs)):=by unfold AV.mk;cases AV.qE (x::xs)<;>rfl
attribute [go_sem] Px Mk Py Pz Pw Su Mm Pu mkO Vl RF
theorem Nm:Ni (.pointer none)=.d (.lit (.pointer none)):=rfl
theorem Nl:Ni (.map none)=.d (.lit (.map none)):=rfl
theorem Qw:Ni .nilFunc=.d (.lit .nilFunc):=rfl
theorem UE{k:IntKind}{n:Int}:cD (.int k n)=.lit (.int k n):=rfl
theorem Qz{b:Bool}:cD (.bool b)=.lit (.bool b):=rfl
theorem Lg{b:ByteArray}:cD (.string b)=.lit (.string b):=rfl
theorem UF:cD (.slice none 0 0)=.sl 0 (some true) []:=rfl
theorem QB:cD (.pointer none)=.lit (.pointer none):=rfl
theorem QA:cD (.map none)=.lit (.map none):=rfl
theorem UD:cD .nilFunc=.lit .nilFunc:=rfl
theorem RW{k:IntKind}{n:Int}:one (.int k n)=true:=rfl
theorem OP{b:Bool}:one (.bool b)=true:=rfl
theorem Jf{b:ByteArray}:one (.string b)=true:=rfl
theorem L8{a:Option Addr}{n c:Nat}:one (.slice a n c)=true:=rfl
theorem RY{a:Option Addr}:one (.pointer a)=true:=rfl
theorem RX{a:Option Nat}:one (.map a)=true:=rfl
theorem RV:one .nilFunc=true:=rfl
attribute [go_sem] Nm Nl Qw UE Qz Lg UF QB QA UD RW OP Jf L8 RY RX RV List.all_cons List.all_nil Bool.and_self
abbrev kD(k:IntKind)(n:Int):D:=.lit (.int k n)
abbrev sD(b:ByteArray):D:=.lit (.string b)
def ia{α:Type}(e:Nat)(f:α->D)(xs:List α):D:=.sl e none (xs.map f)
theorem Sn{α:Type}{e:Nat}{f:α->D}{xs:List α}:qF (.d (ia e f xs))=some (e,xs.map f):=rfl
theorem RM{α:Type}{e:Nat}{f:α->D}{xs:List α}:yX (.d (ia e f xs))=none:=rfl
theorem Lw{α:Type}{e:Nat}{f:α->D}{xs:List α}:AV.cells (.d (ia e f xs))=some [.d (ia e f xs)]:=rfl
theorem H_{α:Type}{e:Nat}{f:α->D}{xs:List α}:AV.CY (.d (ia e f xs))=none:=rfl
theorem Iz{α:Type}{e:Nat}{f:α->D}{xs:List α}:iq (ia e f xs)=[ia e f xs]:=rfl
theorem getD_map'{α:Type}[Inhabited α]{f:α->D}{l:List α}{i:Nat}{d:D}(h:i<l.length):(l.map f).getD i d=f (l.getD i default):=by simp[ay,bt,aB h]
attribute [go_sem] List.length_map List.length_append Option.map_some Option.map_none Option.bind_some and_self Nat.not_lt_zero Bool.not_true Bool.not_false List.forall_mem_cons List.not_mem_nil false_imp_iff implies_true getD_map' List.map_eq_nil_iff List.append_eq_nil_iff Int.toNat_natCast Ob.tok.injEq true_or or_true false_or or_false IX F9 HW LX On Uu kN zJ zQ
attribute [go_sem] Mq Mp RP RN SA Mo PF Sy PC SB Mn PE PD Sz PB Wd Wc JD Sn RM Lw H_ Iz oz mh
theorem iS.refl:∀xs:List AV,iS xs xs
 |[]=>trivial
 |x::xs=>⟨AV.le_refl x,iS.refl xs⟩
theorem zJ.refl:∀o:Ob,zJ o o
 |.dead=>trivial
 |.obj _ cs=>⟨rfl,iS.refl cs⟩
 |.tok _ _ _=>⟨rfl,rfl,rfl⟩
 |.kQ _ _ _ _=>⟨rfl,rfl,rfl,iS.refl _⟩
 |.pF _ _ _ _=>⟨rfl,rfl,rfl,AD.refl _⟩
 |.uq _ _ _=>⟨rfl,rfl,AD.refl _⟩
 |.mp _ _ _=>⟨rfl,rfl,PN.refl _⟩
theorem uD{β:iE}{s s':ij}(hs:∀id,zJ (sat s id) (sat s' id))(b o:Nat):own β s' b o<->own β s b o:=by
 unfold own;refine exists_congr fun id=>?_
 have:=hs id;revert this;cases sat s id<;>cases sat s' id<;>intro h1<;>first|exact h1.elim|exact dc|skip
 ·obtain⟨_,rfl,rfl⟩:=h1;exact dc
 ·obtain⟨_,rfl,rfl,_⟩:=h1;exact dc
 ·obtain⟨_,rfl,rfl,_⟩:=h1;exact dc
 ·obtain⟨rfl,rfl,_⟩:=h1;exact dc
theorem Bg{β:iE}{s s':ij}(hs:∀id,zJ (sat s id) (sat s' id))(id b:Nat):ic β s' id b<->ic β s id b:=by
 unfold ic;have:=hs id;revert this;cases sat s id<;>cases sat s' id<;>intro h1<;>first|exact h1.elim|exact dc|skip
 ·obtain⟨_,rfl,rfl⟩:=h1;exact dc
 ·obtain⟨_,rfl,rfl,_⟩:=h1;exact dc
 ·obtain⟨_,rfl,rfl,_⟩:=h1;exact dc
 ·obtain⟨rfl,rfl,_⟩:=h1;exact dc
theorem Inv.ctx{C:Ctx}{s1:ij}{β:iE}{s:ij}{w:World}(hs:∀id,zJ (sat C.s id) (sat s1 id)):Inv C β s w<->Inv {C with s:=s1} β s w:=by
 constructor
 ·intro h;exact⟨h.size,h.io,h.gl.mono fun b o v h1 h2=>⟨h1,fun h3=>h2 (h3.imp id (uD hs b o).1)⟩,fun b o v h1 h2=>h.keep b o v h1 fun h3=>h2 ((uD hs b o).2 h3),fun b h1 h2=>h.qq b h1 fun id h3=>h2 id ((Bg hs id b).2 h3),
   fun b o h1=>(h.pO b o h1).imp (fun h2=>(uD hs b o).2 h2) id,fun id b h1=>(h.tB id b h1).imp (fun⟨i,h2⟩=>⟨i,(Bg hs i b).2 h2⟩) (fun x=>x),h.pl,
   fun b o h1=>⟨(h.low b o h1).1,fun h2=>(h.low b o h1).2 ((uD hs b o).1 h2)⟩,h.obs,h.inj⟩
 ·intro h;exact⟨h.size,h.io,h.gl.mono fun b o v h1 h2=>⟨h1,fun h3=>h2 (h3.imp id (uD hs b o).2)⟩,fun b o v h1 h2=>h.keep b o v h1 fun h3=>h2 ((uD hs b o).1 h3),fun b h1 h2=>h.qq b h1 fun id h3=>h2 id ((Bg hs id b).1 h3),
   fun b o h1=>(h.pO b o h1).imp (fun h2=>(uD hs b o).1 h2) id,fun id b h1=>(h.tB id b h1).imp (fun⟨i,h2⟩=>⟨i,(Bg hs i b).1 h2⟩) (fun x=>x),h.pl,
   fun b o h1=>⟨(h.low b o h1).1,fun h2=>(h.low b o h1).2 ((uD hs b o).2 h2)⟩,h.obs,h.inj⟩
theorem iC.Uh{P:Program}{f:Nat}{dz:List AV}{s s1:ij}{k:Nat}{R:AV->ij->Prop}(h:iC P f dz s1 k R)(hs:kN s s1):iC P f dz s k R:=fun C vs h1 h2 h3 h4=>by
 subst h1;have hs':=hs.sat;obtain⟨h5,h6⟩:=h3.told hs';refine(h {C with s:=s1} vs rfl h2 ((Inv.ctx hs').1 h5) (by
  show AV.iK C.β (Ctx.ir {C with s:=s1} C.β s1) C.w dz vs.toList;have:Ctx.ir {C with s:=s1} C.β s1=C.ir C.β C.s:=h6;rw[this];exact h4)).mono fun e w' ⟨v,x,β',s',e1,e2,e3,e4⟩=>⟨v,x,β',s',e1,(Inv.ctx hs').2 e2,e3,e4⟩
def xz:List Nat->ij->ij
 |[],s=>s
 |i::r,s=>xz r (zQ i s)
def Ap:List Nat->AV->AV
 |[],x=>x
 |i::r,x=>Ap r (x.kV (iM i))
theorem Inv.drop{C:Ctx}{β:iE}{s:ij}{w:World}(h:Inv C β s w)(id:Nat)(hid:C.k<=id):∃β',Inv C β' (zQ id s) w/\
 ∀x v,AV.ok β (C.ir β s) w x v->AV.ok β' (C.ir β' (zQ id s)) w (x.kV (iM id)) v:=by
 have hs:∀j,zJ (sat (jz id s) j) (sat (zQ id s) j):=fun j=>by rw[Bc];exact .refl _
 obtain⟨h1,h2⟩:=(h.kill id hid).told hs;exact⟨_,h1,fun x v hx=>by rw[h2];exact vc hx⟩
theorem Inv.zX{C:Ctx}{w:World}:∀{ids:List Nat}{β:iE}{s:ij},Inv C β s w->(∀i∈ids,C.k<=i)->∃β',Inv C β' (xz ids s) w/\
 ∀x v,AV.ok β (C.ir β s) w x v->AV.ok β' (C.ir β' (xz ids s)) w (Ap ids x) v
 |[],β,_,h,_=>⟨β,h,fun _ _ hx=>hx⟩
 |i::r,_,_,h,hi=>by
  obtain⟨β1,h1,h2⟩:=h.drop i (hi i (by simp));obtain⟨β2,h3,h4⟩:=h1.zX (ids:=r) fun j hj=>hi j (by simp[hj])
  exact⟨β2,h3,fun x v hx=>h4 _ _ (h2 _ _ hx)⟩
theorem iC.cut{P:Program}{f:Nat}{args:List AV}{s:ij}{k:Nat}{y:AV}{t:ij}
 (h:iC P f args s k fun x s'=>∃ids,(∀i∈ids,k<=i)/\AV.le (Ap ids x) y/\kN (xz ids s') t):iC P f args s k fun x s'=>x=y/\s'=t:=fun C vs h1 h2 h3 h4=>
 (h C vs h1 h2 h3 h4).mono fun e w' ⟨v,x,β',s',e1,e2,e3,ids,e4,e5,e6⟩=>by
  subst h2;obtain⟨β2,h5,h6⟩:=e2.zX e4;obtain⟨h7,h8⟩:=h5.told e6.sat;exact⟨v,y,β2,t,e1,h7,by rw[h8];exact e5 _ _ _ _ (h6 _ _ e3),rfl,rfl⟩
theorem kH.lO{P:Program}{f:Nat}{mc:ie}{n:Nat}{rs:List tc}(h:kH P f mc n rs){args:List AV}{s t:ij}{k:Nat}{y:AV}
 (hm:nj P k mc (GI rs fun x s'=>∃ids,(∀i∈ids,k<=i)/\AV.le (Ap ids x) y/\kN (xz ids s') t) (args++List.replicate (n-args.length) .ig) s):
 iC P f args s k fun x s'=>x=y/\s'=t:=iC.cut (h.calls hm)
theorem AI{P:Program}{k0 f:Nat}{args env:List AV}{s:ij}{d:Option Nat}{R:List AV->ij->Prop}(pr nw:List gF){dz:List AV}{s1 t:ij}{y:AV}
 (hc:iC P f dz s1 pr.length fun x s'=>x=y/\s'=t) (h1:pr.map (·.1)=List.range pr.length) (h2:((pr++nw).map (·.1)).Nodup) (h3:((pr++nw).map (·.2)).Nodup)
 (h4:∀p∈nw,sat s p.2=.dead/\k0<=p.2) (ha:iS (args.map fun x=>x.kV (oz pr)) dz) (hs:kN (lS s pr pr) s1)
 (hk:R (iU d env (y.kV (mh (pr++nw)))) (qo s t (pr++nw) (pr++nw))):lM P k0 f args env s d R:=
 zw ⟨pr,nw,_,h1,h2,h3,h4,(hc.Uh hs).args ha,fun x s' ⟨e1,e2⟩=>by subst e1;subst e2;exact hk⟩
theorem QW{P:Program}{k0:Nat}{F:List (List Nat×List Nat)->List AV->ij->Prop}{ms:List iJ}{acc:List (List Nat×List Nat)}{foot:List Nat}{d:Option Nat}{env:List AV}{s:ij}
 {f:Nat} {args:List AV} (pr nw:List gF) {dz:List AV} {s1 t:ij} {y:AV}
 (hc:iC P f dz s1 pr.length fun x s'=>x=y/\s'=t) (h1:pr.map (·.1)=List.range pr.length) (h2:((pr++nw).map (·.1)).Nodup) (h3:((pr++nw).map (·.2)).Nodup)
 (h4:∀p∈nw,sat s p.2=.dead/\k0<=p.2) (ha:iS (args.map fun x=>x.kV (oz pr)) dz) (hs:kN (lS s pr pr) s1)
 (hk:uV P k0 F ms (((pr++nw).map (·.2)++foot,(Hj t (pr++nw) (pr++nw)).map (·.1))::acc) (iU d env (y.kV (mh (pr++nw)))) (qt s (Hj t (pr++nw) (pr++nw)))):
 nc P k0 F ms acc foot d env s f args:=.inr ⟨pr,nw,y,t,h1,h2,h3,h4,(hc.Uh hs).args ha,hk⟩
attribute [go_sem] Hj lS qo Ob.kV xz Ap
mutual
def AV.nk(id:Nat)(ds:List D):AV->AV
 |.ig=>.ig
 |.d x=>.d x
 |.own e j xs=>if j=id then .d (.sl e none xs)else .own e j xs
 |.ptr j off=>if j=id then .ig else .ptr j off
 |.pV e j off len=>if j=id then(if e=1/\off+len<=ds.length/\(∀d∈ds,(iq d).length=1)then .d (.sl 1 none ((ds.drop off).take len))
  else if off=0/\len=ds.length/\(∀d∈ds,(iq d).length=e)then .d (.sl e none ds)else .ig)else .pV e j off len
 |.pv cs=>.pv cs
 |.Ea t cs=>.Ea t cs
 |.agg cs=>.agg (AV.pT id ds cs)
 |.mj cs=>.mj (AV.pT id ds cs)
 |.fn f a b=>.fn f (AV.pT id ds a) (AV.pT id ds b)
 |.nr e j n=>if j=id then(if n=ds.length/\(∀d∈ds,(iq d).length=e)then .d (.sl e none ds)else .ig)else .nr e j n
 |.lP j k off=>if j=id then .ig else .lP j k off
 |.CG e xs=>.CG e xs
 |.dp x=>.dp x
 |.mp j=>if j=id then .ig else .mp j
def AV.pT(id:Nat)(ds:List D):List AV->List AV
 |[]=>[]
 |x::xs=>AV.nk id ds x::AV.pT id ds xs
end
theorem BJ(id:Nat)(ds:List D):∀xs:List AV,AV.pT id ds xs=xs.map (AV.nk id ds)
 |[]=>rfl
 |x::xs=>by simp only[AV.pT,aP,BJ id ds xs]
theorem HL{id:Nat}{ds:List D}{β β':iE}{O O':Own}{w w':World}{x:AV}{v:Value}(h:AV.ok β O w x v->AV.ok β' O' w' (x.nk id ds) v):
 ((∃d,x=.dp d/\x.nk id ds=.dp d)\/(∀d,x≠ .dp d)/\(∀d,x.nk id ds≠ .dp d)/\(AV.ok β O w x v->AV.ok β' O' w' (x.nk id ds) v)):=by
 cases x with
 |dp d=>exact .inl ⟨d,rfl,rfl⟩
 |own e j xs=>refine .inr ⟨fun d h=>(nomatch h),fun d h=>?_,h⟩;simp only[AV.nk]at h;split at h<;>exact nomatch h
 |ptr j off=>refine .inr ⟨fun d h=>(nomatch h),fun d h=>?_,h⟩;simp only[AV.nk]at h;split at h<;>exact nomatch h
 |pV e j off len=>refine .inr ⟨fun d h=>(nomatch h),fun d h=>?_,h⟩;simp only[AV.nk]at h;(repeat' split at h)<;>exact nomatch h
 |nr e j k=>refine .inr ⟨fun d h=>(nomatch h),fun d h=>?_,h⟩;simp only[AV.nk]at h;(repeat' split at h)<;>exact nomatch h
 |lP j k off=>refine .inr ⟨fun d h=>(nomatch h),fun d h=>?_,h⟩;simp only[AV.nk]at h;split at h<;>exact nomatch h
 |mp j=>refine .inr ⟨fun d h=>(nomatch h),fun d h=>?_,h⟩;simp only[AV.nk]at h;split at h<;>exact nomatch h
 |_=>exact .inr ⟨fun d h=>(nomatch h),fun d h=>(nomatch h),h⟩
def Ob.nk(id:Nat)(ds:List D):Ob->Ob
 |.obj t cs=>.obj t (AV.pT id ds cs)
 |.pF t e n cs=>.pF t e n (AV.pT id ds cs)
 |.uq e n cs=>.uq e n (AV.pT id ds cs)
 |x=>x
def tD(id:Nat)(ds:List D):ij->ij
 |[]=>[]
 |(j,x)::r=>if j=id then tD id ds r else(j,x.nk id ds)::tD id ds r
theorem zg(id:Nat)(ds:List D)(j:Nat):∀s:ij,sat (tD id ds s) j=if j=id then .dead else(sat s j).nk id ds
 |[]=>by simp[tD,sat,Ob.nk]
 |(i,x)::r=>by
  simp only[tD];by_cases h:i=id
  ·subst h;simp only[aC,sat,zg i ds j r];split
   ·rfl
   ·rfl
  ·simp only[h,aE,sat,zg id ds j r];by_cases h2:j=i
   ·subst h2;simp[h]
   ·simp[h2]
theorem A9{β:iE}{s:ij}{id b o:Nat}{ds:List D}(h:own (iy β id .no) (tD id ds s) b o):∃i,i≠id/\tA β s i b o:=by
 obtain⟨i,h⟩:=h;rw[zg]at h;by_cases hi:i=id
 ·subst hi;simp at h
 ·refine⟨i,hi,?_⟩;unfold tA;simp only[hi,aE]at h;cases hs:sat s i with
  |dead=>rw[hs]at h;exact h
  |obj t cs=>rw[hs]at h;simpa[Ob.nk,iy,hi]using h
  |tok t e n=>rw[hs]at h;simpa[Ob.nk,iy,hi]using h
  |kQ t e n cs=>rw[hs]at h;simpa[Ob.nk,iy,hi]using h
  |pF t e n cs=>rw[hs]at h;simpa[Ob.nk,iy,hi]using h
  |uq e n cs=>rw[hs]at h;simpa[Ob.nk,iy,hi]using h
  |mp P k es=>rw[hs]at h;first|exact h.elim|simpa[Ob.nk,iy,hi]using h
theorem yE{β:iE}{s:ij}{id i b:Nat}{ds:List D}(h:ic (iy β id .no) (tD id ds s) i b):i≠id/\ic β s i b:=by
 unfold ic at h⊢;rw[zg]at h;by_cases hi:i=id
 ·subst hi;simp at h
 ·refine⟨hi,?_⟩;simp only[hi,aE]at h;cases hs:sat s i with
  |dead=>rw[hs]at h;exact h
  |obj t cs=>rw[hs]at h;simpa[Ob.nk,iy,hi]using h
  |tok t e n=>rw[hs]at h;simpa[Ob.nk,iy,hi]using h
  |kQ t e n cs=>rw[hs]at h;simpa[Ob.nk,iy,hi]using h
  |pF t e n cs=>rw[hs]at h;simpa[Ob.nk,iy,hi]using h
  |uq e n cs=>rw[hs]at h;simpa[Ob.nk,iy,hi]using h
  |mp P k es=>rw[hs]at h;first|exact h.elim|simpa[Ob.nk,iy,hi]using h
theorem O2{O:Own}{w:World}{b:Nat}:∀{ds:List D}{vs:List Value}{o:Nat},(∀d∈ds,iq d=[d])->D.iK O w ds vs->kz O w b o vs->D.row O w b o 1 ds
 |[],_,_,_,_,_=>by simp[D.row]
 |d::ds,vs,o,hd,h,hc=>by
  simp only[D.iK]at h;obtain⟨v,r,rfl,h1,h2,h3⟩:=h;rw[D.mQ];refine⟨⟨[v],rfl,fun j u hj=>?_,?_⟩,O2 (fun x hx=>hd x (by simp[hx])) h3 fun j u hj=>?_⟩
  ·cases j with
   |zero=>simp at hj;subst hj;exact hc 0 v rfl
   |succ j=>simp at hj
  ·have:=hd d (by simp);cases d with
   |agg cs=>
    simp only[iq]at this;simp only[D.HT];have hx:=bX List.length this;cases cs with
    |nil=>simp at hx
    |cons c cs=>
     simp only[bT]at this;obtain⟨e1,_⟩:=this;have:=bX SizeOf.sizeOf e1;simp at this;omega
   |_=>exact⟨v,rfl,h2⟩
  ·have:=hc (j+1) u hj;rw[show o+1+j=o+(j+1) by omega];exact this
section
variable{C:Ctx}{β:iE}{s:ij}{w:World}{id t:Nat}{ds:List D}
theorem AP{b o:Nat}(h:C.ir (iy β id .no) (tD id ds s) b o):C.ir β s b o:=h.imp (fun x=>x) fun h=>let⟨i,_,h⟩:=A9 h;⟨i,h⟩
theorem yN{x:D}{v:Value}(h:D.ok (C.ir β s) w x v):D.ok (C.ir (iy β id .no) (tD id ds s)) w x v:=D.iY (fun _ _ _ hc hn=>⟨hc,fun h=>hn (AP h)⟩) _ _ h
theorem vj{x:List D}{v:List Value}(h:D.iK (C.ir β s) w x v):D.iK (C.ir (iy β id .no) (tD id ds s)) w x v:=D.jy (fun _ _ _ hc hn=>⟨hc,fun h=>hn (AP h)⟩) _ _ h
def BX(s:ij)(id:Nat)(ds:List D):Prop:=
 (∃t,sat s id=.obj t (ds.map .d)/\∀d∈ds,iq d=[d])\/(∃t e,sat s id=.kQ t e ds.length (ds.flatMap iq)/\∀d∈ds,(iq d).length=e)\/
  ∃t e,sat s id=.obj t ((ds.flatMap iq).map .d)/\(∀d∈ds,(iq d).length=e)/\e≠1/\ds≠[]
theorem Q9(h:Inv C β s w)(ho:sat s id=.obj t (ds.map .d))(hd:∀d∈ds,iq d=[d]){off len:Nat}(hl:off+len<=ds.length){v:Value}
 (hv:AV.ok β (C.ir β s) w (.pV 1 id off len) v):D.ok (C.ir (iy β id .no) (tD id ds s)) w (.sl 1 none ((ds.drop off).take len)) v:=by
 simp only[AV.ok]at hv;obtain⟨b,cap,h1,⟨h2,h3⟩,rfl⟩:=hv;have hob:=h.obs id;rw[ho]at hob;obtain⟨b',vs,h4,h5,h6,h7⟩:=hob;rw[h1]at h4;cases h4;have hlen:((ds.drop off).take len).length=len:=by simp;omega
 obtain⟨pre,rest,hvs,h7⟩:=h7;have h6':∀u∈pre,one u=true:=fun u hu=>h6 u (by rw[hvs];exact bk _ hu)
 have hoks:=A7 h6' h7;have hcells:kz (C.ir (iy β id .no) (tD id ds s)) w b 0 pre:=fun j u hj=>by
  have hju:vs[j]?=some u:=by
   have:vs.toList[j]?=some u:=by rw[hvs,aZ (aO.1 hj).1];exact hj
   simpa using this
  refine⟨?_,?_,h6' u (bO hj)⟩
  ·simp[World.cell?,h5,hju]
  ·rintro(hO|hO)
   ·have:=h.low b (0+j) hO;rcases h.pO b (0+j) ⟨id,by rw[ho];exact h1⟩with h8|h8
    ·exact this.2 h8
    ·omega
   ·obtain⟨i,hi,hO⟩:=A9 hO;exact hi (h.inj i id b hO.block (by unfold ic;rw[ho];exact h1))
 simp only[D.ok];refine⟨some ⟨b,off,none⟩,cap,by rw[hlen],by rw[hlen];exact⟨h2,h3⟩,trivial,.inr ⟨b,off,rfl,?_⟩⟩;have hall:=vj (id:=id) (ds:=ds) hoks;rw[D.jD]at hall;refine O2 (vs:=(pre.drop off).take len) (fun d hd'=>hd d (cU (cB hd'))) ?_ fun j u hj=>?_
 ·rw[D.jD];refine⟨by simp[<-hall.1],fun i x u hx hu=>?_⟩;rw[cu]at hx hu;split at hx
  ·rename_i hi;rw[ah hi]at hu;rw[cE]at hx hu;exact hall.2 _ _ _ hx hu
  ·cases hx
 ·rw[cu]at hj;split at hj
  ·rw[cE]at hj;have:=hcells (off+j) u hj;rwa [show 0+(off+j)=off+j by omega]at this
  ·cases hj
theorem Di{O:Own}{w:World}:∀{xs ys:List D}{vs:List Value},D.iK O w (xs++ys) vs->∃us r,vs=us++r/\D.iK O w xs us/\D.iK O w ys r
 |[],ys,vs,h=>⟨[],vs,rfl,by simp[D.iK],h⟩
 |x::xs,ys,vs,h=>by
  simp only[bP,D.iK]at h;obtain⟨v,r,rfl,h0,h1,h2⟩:=h;obtain⟨us,r',rfl,h3,h4⟩:=Di h2;exact⟨v::us,r',rfl,by simp only[D.iK];exact⟨v,us,rfl,h0,h1,h3⟩,h4⟩
theorem Dp{O:Own}{w:World}{b e:Nat}:∀{ds:List D}{vs:List Value}{o:Nat},(∀d∈ds,(iq d).length=e)->D.iK O w (ds.flatMap iq) vs->kz O w b o vs->D.row O w b o e ds
 |[],_,_,_,_,_=>by simp[D.row]
 |d::ds,vs,o,hd,h,hc=>by
  rw[cX]at h;obtain⟨us,r,rfl,h1,h2⟩:=Di h;have hl:=D.iP h1;rw[hd d (by simp)]at hl;rw[D.mQ];refine⟨⟨us,hl,fun j u hj=>?_,Kw h1⟩,Dp (fun x hx=>hd x (by simp[hx])) h2 fun j u hj=>?_⟩
  ·exact hc j u (by rw[aZ (aO.1 hj).1];exact hj)
  ·have:=hc (e+j) u (by rw[bH gY,hl,dM];exact hj);rwa [<-dg]at this
theorem Q8{e:Nat}(h:Inv C β s w)(ho:sat s id=.kQ t e ds.length (ds.flatMap iq)){e':Nat}(hd:∀d∈ds,(iq d).length=e'){v:Value}
 (hv:AV.ok β (C.ir β s) w (.nr e' id ds.length) v):D.ok (C.ir (iy β id .no) (tD id ds s)) w (.sl e' none ds) v:=by
 simp only[AV.ok]at hv;obtain⟨u,m,h1,h2,h3,_⟩:=hv;have hob:=h.obs id;rw[ho]at hob;obtain⟨u',h4,_,h6⟩:=hob;rw[h4]at h1;obtain⟨rfl,rfl⟩:=h1;have:=h3 rfl;subst this;simp only[D.ok];rcases h6 with⟨rfl,h7⟩|⟨b,cap,vs,rfl,k2,k3,k4,k5,k6,pre,rest,k7,k8⟩
 ·have:ds=[]:=b_.1 h7;subst this;exact⟨none,0,rfl,⟨aF _,gY⟩,trivial,.inl rfl⟩
 ·refine⟨_,cap,rfl,⟨k4,k5⟩,trivial,.inr ⟨b,0,rfl,Dp hd (vj k8) fun j u hj=>?_⟩⟩;have hju:vs[j]?=some u:=by
   have:vs.toList[j]?=some u:=by rw[k7,aZ (aO.1 hj).1];exact hj
   simpa using this
  refine⟨by simp[World.cell?,k2,hju],?_,k6 u (by rw[k7];exact bk _ (bO hj))⟩;have hbl:ic β s id b:=by unfold ic;rw[ho];exact⟨cap,h4⟩
  rintro(hO|hO)
  ·have:=h.low b (0+j) hO;rcases h.pO b (0+j) ⟨id,by rw[ho];exact⟨cap,h4⟩⟩with h8|h8
   ·exact this.2 h8
   ·omega
  ·obtain⟨i,hi,hO⟩:=A9 hO;exact hi (h.inj i id b hO.block hbl)
theorem N6{e:Nat}(h:Inv C β s w)(ho:BX s id ds)(hd:∀d∈ds,(iq d).length=e)(hn:¬(e=1/\0+ds.length<=ds.length/\∀d∈ds,(iq d).length=1)){v:Value}
 (hv:AV.ok β (C.ir β s) w (.pV e id 0 ds.length) v):D.ok (C.ir (iy β id .no) (tD id ds s)) w (.sl e none ds) v:=by
 simp only[AV.ok]at hv;obtain⟨b,cap,h1,⟨h2,h3⟩,rfl⟩:=hv;simp only[D.ok];by_cases hds:ds=[]
 ·subst hds;exact⟨_,cap,rfl,⟨h2,h3⟩,trivial,.inl rfl⟩
 obtain⟨d0,hd0⟩:=List.exists_mem_of_ne_nil _ hds;rcases ho with⟨t,ho,hd1⟩|⟨t,e',ho,hd1⟩|⟨t,e',ho,hd1,he1,hne⟩
 ·exfalso;have e1:=hd d0 hd0;rw[hd1 d0 hd0]at e1;exact hn ⟨e1.symm,gY,fun d hd=>by rw[hd1 d hd];rfl⟩
 ·have hob:=h.obs id;rw[ho]at hob;obtain⟨u,h4,_⟩:=hob;rw[h1]at h4;cases h4
 ·have hob:=h.obs id;rw[ho]at hob;obtain⟨b',vs,h4,h5,h6,h7⟩:=hob;rw[h1]at h4;cases h4;obtain⟨pre,rest,hvs,h7⟩:=h7;have h6':∀u∈pre,one u=true:=fun u hu=>h6 u (by rw[hvs];exact bk _ hu)
  have hoks:=A7 h6' h7;refine⟨_,cap,rfl,⟨h2,h3⟩,trivial,.inr ⟨b,0,rfl,Dp hd (vj hoks) fun j u hj=>?_⟩⟩;have hju:vs[j]?=some u:=by
   have:vs.toList[j]?=some u:=by rw[hvs,aZ (aO.1 hj).1];exact hj
   simpa using this
  refine⟨by simp[World.cell?,h5,hju],?_,h6' u (bO hj)⟩;rintro(hO|hO)
  ·have:=h.low b (0+j) hO;rcases h.pO b (0+j) ⟨id,by rw[ho];exact h1⟩with h8|h8
   ·exact this.2 h8
   ·omega
  ·obtain⟨i,hi,hO⟩:=A9 hO;exact hi (h.inj i id b hO.block (by unfold ic;rw[ho];exact h1))
mutual
theorem BH(h:Inv C β s w)(ho:BX s id ds):∀(x:AV)(v:Value),AV.ok β (C.ir β s) w x v->
 AV.ok (iy β id .no) (C.ir (iy β id .no) (tD id ds s)) w (x.nk id ds) v
 |.ig,v=>fun _=>by simp[AV.nk,AV.ok]
 |.d x,v=>fun hv=>by simp only[AV.nk,AV.ok]at hv⊢;exact yN hv
 |.own e j xs,v=>fun hv=>by
  simp only[AV.nk];split
  ·simp only[AV.ok]at hv⊢;exact yN hv.1
  ·rename_i hj;simp only[AV.ok]at hv⊢;obtain⟨h1,u,n,h2,h3⟩:=hv;exact⟨yN h1,u,n,by simpa[iy,hj]using h2,h3⟩
 |.ptr j off,v=>fun hv=>by
  simp only[AV.nk];split
  ·simp[AV.ok]
  ·rename_i hj;simp only[AV.ok]at hv⊢;obtain⟨b,h1,h2⟩:=hv;exact⟨b,by simpa[iy,hj]using h1,h2⟩
 |.pV e j off len,v=>fun hv=>by
  simp only[AV.nk];split
  ·rename_i hj;subst hj;split
   ·rename_i hc;obtain⟨rfl,hc,hc1⟩:=hc;simp only[AV.ok];rcases ho with⟨t,ho,hd⟩|⟨t,e,ho,hd⟩|⟨t,e,ho,hd,he1,hne⟩
    ·exact Q9 h ho hd hc hv
    ·have hob:=h.obs j;rw[ho]at hob;obtain⟨u,h4,_⟩:=hob;simp only[AV.ok]at hv;obtain⟨b,cap,h1,_⟩:=hv;rw[h1]at h4;cases h4
    ·obtain⟨d,hd'⟩:=List.exists_mem_of_ne_nil _ hne;exact absurd ((hd d hd').symm.trans (hc1 d hd')) he1
   ·rename_i hc1;split
    ·rename_i hc;obtain⟨rfl,rfl,hc⟩:=hc;simp only[AV.ok];exact N6 h ho hc hc1 hv
    ·simp[AV.ok]
  ·rename_i hj;simp only[AV.ok]at hv⊢;obtain⟨b,cap,h1,h2⟩:=hv;exact⟨b,cap,by simpa[iy,hj]using h1,h2⟩
 |.pv cs,v=>fun hv=>by
  simp only[AV.nk,AV.ok]at hv⊢;obtain⟨b,o,vs,h1,h2,h3⟩:=hv;exact⟨b,o,vs,h1,h2.mono (fun _ _ _ hc hn=>⟨hc,fun h=>hn (AP h)⟩),vj h3⟩
 |.Ea t cs,v=>fun hv=>by
  simp only[AV.nk,AV.ok]at hv⊢;obtain⟨b,o,vs,h1,h2,h3⟩:=hv;exact⟨b,o,vs,h1,h2.mono (fun _ _ _ hc hn=>⟨hc,fun h=>hn (AP h)⟩),vj h3⟩
 |.agg cs,v=>fun hv=>by
  simp only[AV.nk,AV.ok]at hv⊢;obtain⟨vs,h1,h2,h3⟩:=hv;exact⟨vs,h1,h2,xL h ho cs _ h3⟩
 |.mj cs,v=>fun hv=>by
  simp only[AV.nk,AV.ok]at hv⊢;obtain⟨vs,h1,h3⟩:=hv;exact⟨vs,h1,xL h ho cs _ h3⟩
 |.fn f a b,v=>fun hv=>by
  simp only[AV.nk,AV.ok]at hv⊢;obtain⟨fs,cs,h1,h2,h3⟩:=hv;exact⟨fs,cs,h1,xL h ho a _ h2,xL h ho b _ h3⟩
 |.nr e j n,v=>fun hv=>by
  simp only[AV.nk];split
  ·rename_i hj;subst hj;split
   ·rename_i hc;obtain⟨rfl,hc⟩:=hc;simp only[AV.ok];rcases ho with⟨t,ho,hd⟩|⟨t,e,ho,hd⟩|⟨t,e,ho,hd,he1,hne⟩
    ·have hob:=h.obs j;rw[ho]at hob;obtain⟨b,vs,h4,_⟩:=hob;simp only[AV.ok]at hv;obtain⟨u,m,h1,_⟩:=hv;rw[h4]at h1;exact h1.elim
    ·exact Q8 h ho hc hv
    ·have hob:=h.obs j;rw[ho]at hob;obtain⟨b,vs,h4,_⟩:=hob;simp only[AV.ok]at hv;obtain⟨u,m,h1,_⟩:=hv;rw[h4]at h1;exact h1.elim
   ·simp[AV.ok]
  ·rename_i hj;simp only[AV.ok]at hv⊢;obtain⟨u,m,h1,h2⟩:=hv;exact⟨u,m,by simpa[iy,hj]using h1,h2⟩
 |.lP j k off,v=>fun hv=>by
  simp only[AV.nk];split
  ·simp[AV.ok]
  ·rename_i hj;simp only[AV.ok]at hv⊢;obtain⟨u,m,b,off',h1,h2⟩:=hv;exact⟨u,m,b,off',by simpa[iy,hj]using h1,h2⟩
 |.CG e xs,v=>fun hv=>by
  simp only[AV.nk,AV.ok]at hv⊢;obtain⟨a,h1,h2⟩:=hv;exact⟨a,h1,yN h2⟩
 |.dp x,v=>fun _=>by simp[AV.nk,AV.ok]
 |.mp j,v=>fun hv=>by
  simp only[AV.nk];split
  ·simp[AV.ok]
  ·rename_i hj;simp only[AV.ok]at hv⊢;obtain⟨b,h1,h2⟩:=hv;exact⟨b,by simpa[iy,hj]using h1,h2⟩
theorem xL(h:Inv C β s w)(ho:BX s id ds):∀(xs:List AV)(vs:List Value),AV.iK β (C.ir β s) w xs vs->
 AV.iK (iy β id .no) (C.ir (iy β id .no) (tD id ds s)) w (AV.pT id ds xs) vs
 |[],vs=>fun hv=>by simpa[AV.pT,AV.iK]using hv
 |x::xs,vs=>fun hv=>by
  simp only[AV.pT,AV.iK]at hv⊢;obtain⟨v,r,h1,h2,h3⟩:=hv;exact⟨v,r,h1,BH h ho x v h2,xL h ho xs r h3⟩
end
theorem Inv.nk(h:Inv C β s w)(hid:C.k<=id)(ho:BX s id ds):Inv C (iy β id .no) (tD id ds s) w where
 size:=h.size
 io:=h.io
 gl:=h.gl
 keep:=h.keep
 qq:=h.qq
 pO:=fun b o ho=>let⟨i,_,h1⟩:=A9 ho;h.pO b o ⟨i,h1⟩
 tB:=fun i b hb=>h.tB i b (yE hb).2
 pl:=fun i hi=>by
  have:i≠id:=by omega
  simpa[iy,this]using h.pl i hi
 low:=h.low
 obs:=fun i=>by
  rw[zg];by_cases hi:i=id
  ·subst hi;simp[vQ,iy]
  ·simp only[hi,aE];have hob:=h.obs i;cases hs:sat s i with
   |dead=>rw[hs]at hob;simpa[Ob.nk,vQ,iy,hi]using hob
   |obj t' cs=>
    rw[hs]at hob;obtain⟨b,vs,h1,h2,h0,h3⟩:=hob;exact⟨b,vs,by simpa[iy,hi]using h1,h2,h0,h3.imp fun _ hx=>xL h ho _ _ hx⟩
   |tok t' e n=>
    rw[hs]at hob;obtain⟨u,h1,h2⟩:=hob;exact⟨u,by simpa[iy,hi]using h1,h2⟩
   |kQ t' e n cs=>
    rw[hs]at hob;obtain⟨u,h1,hl,h2⟩:=hob;refine⟨u,by simpa[iy,hi]using h1,hl,?_⟩;rcases h2 with h2|⟨b,cap,vs,k1,k2,k3,k4,k5,k6,pre,rest,k7,k8⟩
    ·exact .inl h2
    ·exact .inr ⟨b,cap,vs,k1,k2,k3,k4,k5,k6,pre,rest,k7,vj k8⟩
   |pF t' e n cs=>
    rw[hs]at hob;obtain⟨u,bs,h1,h0,h2⟩:=hob;refine⟨u,bs,by simpa[iy,hi]using h1,h0,?_⟩;rw[BJ];exact h2.imp (f:=AV.nk id ds) (β:=β) (O:=C.ir β s) (w:=w) (fun x v=>HL (BH h ho x v)) (fun _ _=>rfl) (fun _ _ _=>rfl)
   |uq e n cs=>
    rw[hs]at hob;obtain⟨u,bs,h1,h0,h2⟩:=hob;refine⟨u,bs,by simpa[iy,hi]using h1,h0,?_⟩;rw[BJ];exact h2.imp (f:=AV.nk id ds) (β:=β) (O:=C.ir β s) (w:=w) (fun x v=>HL (BH h ho x v)) (fun _ _=>rfl) (fun _ _ _ _=>rfl)
   |mp P k es=>
    rw[hs]at hob;obtain⟨b,h1,h2⟩:=hob;exact⟨b,by simpa[iy,hi]using h1,h2.imp rfl fun x v hx=>yN hx⟩
 inj:=fun i j b hi hj=>h.inj i j b (yE hi).2 (yE hj).2
end
theorem wG(id:Nat)(ds:List D):∀(xs:List AV)(i:Nat),(AV.pT id ds xs)[i]?=(xs[i]?).map (AV.nk id ds)
 |[],_=>by simp[AV.pT]
 |x::xs,0=>by simp[AV.pT]
 |x::xs,i+1=>by simp[AV.pT,wG id ds xs i]
theorem yO(id:Nat)(ds:List D):∀(xs:List AV),(AV.pT id ds xs).length=xs.length
 |[]=>rfl
 |x::xs=>by simp[AV.pT,yO id ds xs]
theorem iL.Q5{k:Nat}{env:List AV}{s:ij}(id:Nat){ds:List D}(hid:k<=id)(ho:BX s id ds):
 iL k env s (AV.pT id ds env) (tD id ds s):=fun C β a w hC hst=>by
 subst hC;refine⟨iy β id .no,hst.defers,hst.inv.nk hid ho,by rw[yO,hst.len],fun i x hx=>?_⟩;rw[wG]at hx;cases hx2:env[i]? with
 |none=>rw[hx2]at hx;cases hx
 |some y=>rw[hx2]at hx;cases hx;exact BH hst.inv ho y _ (hst.env i y hx2)
def aD{α:Type}(f:α->D)(x:α):AV:=.d (f x)
theorem I_{α:Type}(f:α->D)(xs:List α):xs.map (aD f)=(xs.map f).map .d:=by rw[eS];rfl
theorem Ra{α:Type}[Inhabited α]{f:α->D}{xs:List α}{i:Nat}(h:i<xs.length):(xs.map (aD f)).getD i .ig=.d (f (xs.getD i default)):=by simp[ay,bt,aB h,aD]
theorem Pa{α:Type}{f:α->D}{xs:List α}{i:Nat}{v:α}(h:i<xs.length):List.take i (xs.map (aD f))++(AV.d (f v)::List.drop (i+1) (xs.map (aD f)))=(xs.set i v).map (aD f):=by
 rw[List.map_set,ew,ah (by simpa using h)];rfl
theorem sv{α:Type}{f:α->D}{x:AV}{v:α}(h:AV.le x (.d (f v))):∀n,iS (List.replicate n [x]).flatten ((List.replicate n v).map (aD f))
 |0=>trivial
 |n+1=>by simp only[cY,ck,aP,bP,bp];exact⟨h,sv h n⟩
theorem Fc{xs:List AV}:iS xs xs<->True:=⟨fun _=>trivial,fun _=>.refl _⟩
theorem Dt{id:Nat}{ds:List D}:AV.nk id ds .ig=.ig:=by simp only[AV.nk]
theorem N5{id:Nat}{ds:List D}{x:D}:AV.nk id ds (.d x)=.d x:=by simp only[AV.nk]
theorem Fu{id e j:Nat}{ds xs:List D}:AV.nk id ds (.own e j xs)=if j=id then .d (.sl e none xs)else .own e j xs:=by simp only[AV.nk]
theorem Fv{id j off:Nat}{ds:List D}:AV.nk id ds (.ptr j off)=if j=id then .ig else .ptr j off:=by simp only[AV.nk]
theorem BG{id e j off len:Nat}{ds:List D}(h:¬j=id):AV.nk id ds (.pV e j off len)=.pV e j off len:=by simp only[AV.nk,ak h]
class wC {α:Type} (f:α->D) (e:outParam Nat):Prop where
 len:∀x,(iq (f x)).length=e
theorem AQ{α:Type}{id n:Nat}{f:α->D}[wC f 1]{xs:List α}(h:xs.length=n):AV.nk id (xs.map f) (.pV 1 id 0 n)=.d (ia 1 f xs):=by
 simp only[AV.nk,aC,bF];rw[ah ⟨trivial,by simp[h],by rintro d hd;obtain⟨x,_,rfl⟩:=bz.1 hd;exact wC.len x⟩,bL (by simp[h])];rfl
theorem GN{α:Type}{id e n:Nat}{f:α->D}[wC f e]{xs:List α}(h:n=xs.length):AV.nk id (xs.map f) (.pV e id 0 n)=.d (ia e f xs):=by
 subst h;by_cases he:e=1
 ·subst he;exact AQ rfl
 ·simp only[AV.nk,aC];rw[ak fun h=>he h.1,ah ⟨trivial,by simp,by rintro d hd;obtain⟨x,_,rfl⟩:=bz.1 hd;exact wC.len x⟩];rfl
theorem IG{id:Nat}{ds cs:List D}:AV.nk id ds (.pv cs)=.pv cs:=by simp only[AV.nk]
theorem Ft{id:Nat}{ds:List D}{cs:List AV}:AV.nk id ds (.agg cs)=.agg (AV.pT id ds cs):=by simp only[AV.nk]
theorem Fw{id:Nat}{ds:List D}{cs:List AV}:AV.nk id ds (.mj cs)=.mj (AV.pT id ds cs):=by simp only[AV.nk]
theorem IF{id f:Nat}{ds:List D}{a b:List AV}:AV.nk id ds (.fn f a b)=.fn f (AV.pT id ds a) (AV.pT id ds b):=by simp only[AV.nk]
theorem Du{id:Nat}{ds:List D}:AV.pT id ds []=[]:=by simp only[AV.pT]
theorem BI{id:Nat}{ds:List D}{x:AV}{xs:List AV}:AV.pT id ds (x::xs)=AV.nk id ds x::AV.pT id ds xs:=by simp only[AV.pT]
theorem Ka{α:Type}{id:Nat}{ds:List D}{f:α->D}:∀xs:List α,AV.pT id ds (xs.map (aD f))=xs.map (aD f)
 |[]=>by simp only[dr,AV.pT]
 |x::xs=>by simp only[aP,AV.pT,Ka xs,aD,AV.nk]
theorem RE{α:Type}{f:α->D}{xs:List α}:(xs.map f).map AV.d=xs.map (aD f):=(I_ f xs).symm
theorem KF{α:Type}{ρ:Nat->Option Nat}{f:α->D}:∀xs:List α,AV.i_ ρ (xs.map (aD f))=xs.map (aD f)
 |[]=>by simp only[dr,AV.i_]
 |x::xs=>by simp only[aP,AV.i_,KF xs,aD,AV.kV]
theorem KZ{α:Type}{f:α->D}:∀xs:List α,AV.qE (xs.map (aD f))=some (xs.map f)
 |[]=>rfl
 |x::xs=>by simp only[aP,aD,AV.qE,az];exact⟨_,KZ xs,rfl⟩
theorem YO{α:Type}{f:α->D}{xs:List α}:AV.mk (xs.map (aD f))=.d (.agg (xs.map f)):=by unfold AV.mk;rw[KZ]
def Zi{α:Type}(f:α->D)(xs:List α):D:=.agg (xs.map f)
theorem Ek{P:Program}{k0 f:Nat}{args env:List AV}{s:ij}{d:Option Nat}{R:List AV->ij->Prop}{α:Type}(id:Nat){t:Nat}(g:α->D)(xs:List α)(hid:k0<=id)
 (ho:sat s id=.obj t (xs.map (aD g))) (hd:∀x,iq (g x)=[g x]) (h:lM P k0 f (AV.pT id (xs.map g) args) (AV.pT id (xs.map g) env) (tD id (xs.map g) s) d R):
 lM P k0 f args env s d R:=fun C β a w vs hC hst hvs=>by
 subst hC;have ho':sat s id=.obj t ((xs.map g).map .d):=by rw[ho,I_]
 have hd':∀d∈xs.map g,iq d=[d]:=fun d h=>by obtain⟨x,_,rfl⟩:=bz.1 h;exact hd x
 refine h C (iy β id .no) a w vs rfl ⟨hst.defers,hst.inv.nk hid (.inl ⟨t,ho',hd'⟩),by rw[yO,hst.len],fun i x hx=>?_⟩ (xL hst.inv (.inl ⟨t,ho',hd'⟩) _ _ hvs);rw[wG]at hx;cases hx2:env[i]? with
 |none=>rw[hx2]at hx;cases hx
 |some y=>rw[hx2]at hx;cases hx;exact BH hst.inv (.inl ⟨t,ho',hd'⟩) y _ (hst.env i y hx2)
theorem Df{P:Program}{k0 f:Nat}{args env:List AV}{s s':ij}{d:Option Nat}{R:List AV->ij->Prop}(hs:kN s s')(h:lM P k0 f args env s' d R):lM P k0 f args env s d R:=
 fun C β a w vs hC hst hvs=>by
 obtain⟨h1,hf⟩:=hst.inv.told hs.sat;exact h C β a w vs hC ⟨hst.defers,h1,hst.len,fun i y hy=>by rw[hf];exact hst.env i y hy⟩ (by rw[hf];exact hvs)
attribute [go_sem] Dt N5 Fu Fv BG AQ IG Ft Fw IF Du BI Ka RE KF YO Ob.nk tD Ra Pa Fc List.flatten_cons List.flatten_nil Zi Nat.mul_one List.length_set List.length_replicate
def kP{α:Type}(f:α->D)(xs:List α):List D:=(xs.map f).flatMap iq
theorem GP{α:Type}{f:α->D}:kP f []=[]:=rfl
theorem sC{α:Type}{f:α->D}{x:α}{xs:List α}:kP f (x::xs)=iq (f x)++kP f xs:=by simp[kP]
theorem B8{α:Type}{f:α->D}{xs ys:List α}:kP f (xs++ys)=kP f xs++kP f ys:=by simp[kP]
theorem B9{α:Type}{f:α->D}{e:Nat}(he:∀x,(iq (f x)).length=e):∀xs:List α,(kP f xs).length=xs.length*e
 |[]=>by simp[kP]
 |x::xs=>by rw[sC,ai,he,B9 he xs,aQ,bY];omega
theorem EM{α:Type}{f:α->D}{e:Nat}(he:∀x,(iq (f x)).length=e):∀(xs:List α)(i k:Nat)[Inhabited α],i<xs.length->k<=e->
 List.drop (i*e+k) (kP f xs)=(iq (f (xs.getD i default))).drop k++kP f (xs.drop (i+1))
 |[],i,k,_,h,_=>by simp at h
 |x::xs,0,k,_,h,hk=>by
  rw[sC,eR,bU,di (by rw[he];exact hk)];simp
 |x::xs,i+1,k,_,h,hk=>by
  have e1:(i+1)*e+k=(iq (f x)).length+(i*e+k):=by rw[he,bY];omega
  rw[sC,e1,List.drop_append,bG gY,bp,dM,EM he xs i k (by simpa using h) hk];simp
theorem LF{α:Type}[Inhabited α]{f:α->D}{e:Nat}(he:∀x,(iq (f x)).length=e){xs:List α}{i k:Nat}(hi:i<xs.length)(hk:k<e){d:D}:
 (kP f xs).getD (i*e+k) d=(iq (f (xs.getD i default))).getD k d:=by
 have h:=EM he xs i k hi gY;have h1:(kP f xs).getD (i*e+k) d=(List.drop (i*e+k) (kP f xs)).getD 0 d:=by simp[ay]
 have h2:k<(iq (f (xs.getD i default))).length:=by rw[he];exact hk
 rw[h1,h];simp only[ay];rw[aZ (by rw[cG,he];omega),cE];simp
theorem Inv.Zf{C:Ctx}{β:iE}{s:ij}{w:World}(h:Inv C β s w){id t e:Nat}(ho:sat s id=.tok t e 0):
 Inv C β (sset s id (.kQ t e 0 [])) w/\C.ir β (sset s id (.kQ t e 0 []))=C.ir β s:=by
 have hown:∀b o,own β (sset s id (.kQ t e 0 [])) b o<->own β s b o:=fun b o=>by
  unfold own;refine exists_congr fun i=>?_
  rw[ki];by_cases hi:i=id
  ·subst hi;rw[ho];simp
  ·rw[ak hi]
 have hblk:∀i b,ic β (sset s id (.kQ t e 0 [])) i b<->ic β s i b:=fun i b=>by
  unfold ic;rw[ki];by_cases hi:i=id
  ·subst hi;rw[ho];simp
  ·rw[ak hi]
 have hf:C.ir β (sset s id (.kQ t e 0 []))=C.ir β s:=by funext b o;exact propext (or_congr dc (hown b o))
 refine⟨⟨h.size,h.io,h.gl,h.keep,h.qq,fun b o ho=>h.pO b o ((hown b o).1 ho),fun id b hb=>h.tB id b ((hblk id b).1 hb),h.pl,h.low,fun i=>?_,
  fun i j b hi hj=>h.inj i j b ((hblk i b).1 hi) ((hblk j b).1 hj)⟩,hf⟩
 rw[hf,ki];have h1:=h.obs i;by_cases hi:i=id
 ·subst hi;rw[ho]at h1;obtain⟨u,h2,h3⟩:=h1;simp only[aC];refine⟨u,h2,by simp,?_⟩;rcases h3 with h3|⟨b,cap,vs,k1,k2,k3,k4,k5,k6⟩
  ·exact .inl h3
  ·exact .inr ⟨b,cap,vs,k1,k2,k3,k4,k5,k6,[],vs.toList,rfl,by simp[D.iK]⟩
 ·rw[ak hi];exact h1
theorem BX.kQ{α:Type}{s:ij}{id t e:Nat}(f:α->D)(xs:List α)(ho:sat s id=.kQ t e xs.length (kP f xs))(he:∀x,(iq (f x)).length=e):BX s id (xs.map f):=
 .inr (.inl ⟨t,e,by rw[aM];exact ho,fun d hd=>by obtain⟨x,_,rfl⟩:=bz.1 hd;exact he x⟩)
theorem iL.Q6{α:Type}{k:Nat}{env:List AV}{s:ij}(id:Nat){t e:Nat}(f:α->D)(xs:List α)(hid:k<=id)(ho:sat s id=.kQ t e xs.length (kP f xs))(he:∀x,(iq (f x)).length=e):
 iL k env s (AV.pT id (xs.map f) env) (tD id (xs.map f) s):=iL.Q5 id hid (.kQ f xs ho he)
theorem N8{α:Type}{id e:Nat}{f:α->D}(he:∀x,(iq (f x)).length=e){xs:List α}:AV.nk id (xs.map f) (.nr e id xs.length)=.d (ia e f xs):=by
 simp only[AV.nk,aC];rw[ah ⟨by simp,fun d hd=>by obtain⟨x,_,rfl⟩:=bz.1 hd;exact he x⟩];rfl
theorem BF{id e j n:Nat}{ds:List D}(h:¬j=id):AV.nk id ds (.nr e j n)=.nr e j n:=by simp only[AV.nk,ak h]
theorem Dr{id j k off:Nat}{ds:List D}:AV.nk id ds (.lP j k off)=if j=id then .ig else .lP j k off:=by simp only[AV.nk]
def jw(k:Nat)(x:AV)(s:ij)(y:AV)(t:ij):Prop:=∀(C:Ctx)(β:iE)(w:World)(v:Value),C.k=k->Inv C β s w->AV.ok β (C.ir β s) w x v->
 ∃β',Inv C β' t w/\AV.ok β' (C.ir β' t) w y v
theorem jw.refl{k:Nat}{x:AV}{s:ij}:jw k x s x s:=fun _ β _ _ _ h1 h2=>⟨β,h1,h2⟩
theorem jw.trans{k:Nat}{x y z:AV}{s t u:ij}(h1:jw k x s y t)(h2:jw k y t z u):jw k x s z u:=fun C β w v hC h3 h4=>let⟨β1,h5,h6⟩:=h1 C β w v hC h3 h4;h2 C β1 w v hC h5 h6
theorem jw.told{k:Nat}{x y:AV}{s t:ij}(hx:AV.le x y)(hs:kN s t):jw k x s y t:=fun C β w v _ h3 h4=>by
 obtain⟨h1,hf⟩:=h3.told hs.sat;exact⟨β,h1,by rw[hf];exact hx _ _ _ _ h4⟩
theorem jw.zX{k:Nat}{x:AV}{s:ij}(ids:List Nat)(hi:∀i∈ids,k<=i):jw k x s (Ap ids x) (xz ids s):=fun C β w v hC h3 h4=>by
 subst hC;obtain⟨β1,h1,h2⟩:=h3.zX hi;exact⟨β1,h1,h2 _ _ h4⟩
theorem jw.nk{k:Nat}{x:AV}{s:ij}(id:Nat){ds:List D}(hid:k<=id)(ho:BX s id ds):jw k x s (x.nk id ds) (tD id ds s):=fun C β w v hC h3 h4=>by
 subst hC;exact⟨_,h3.nk hid ho,BH h3 ho _ _ h4⟩
theorem iC.done{P:Program}{f:Nat}{args:List AV}{s:ij}{k:Nat}{y:AV}{t:ij}(h:iC P f args s k fun x s'=>jw k x s' y t):iC P f args s k fun x s'=>x=y/\s'=t:=fun C vs h1 h2 h3 h4=>
 (h C vs h1 h2 h3 h4).mono fun _ w' ⟨v,_,β',_,e1,e2,e3,e4⟩=>let⟨β2,h5,h6⟩:=e4 C β' w' v h2 e2 e3;⟨v,y,β2,t,e1,h5,h6,rfl,rfl⟩
theorem kH.Io{P:Program}{f:Nat}{mc:ie}{n:Nat}{rs:List tc}(h:kH P f mc n rs){args:List AV}{s t:ij}{k:Nat}{y:AV}
 (hm:nj P k mc (GI rs fun x s'=>jw k x s' y t) (args++List.replicate (n-args.length) .ig) s):iC P f args s k fun x s'=>x=y/\s'=t:=iC.done (h.calls hm)
def tu(i j:Nat):Nat->Option Nat:=fun q=>if q=i then some j else if q=j then none else some q
def ru(i j:Nat)(β:iE):iE:=fun q=>if q=j then β i else if q=i then .no else β q
def wA(i j:Nat)(ob:Ob):ij->ij
 |[]=>[(j,ob)]
 |(q,x)::r=>if q=i\/q=j then wA i j ob r else(q,x.kV (tu i j))::wA i j ob r
theorem BU(i j:Nat)(ob:Ob)(q:Nat):∀s:ij,sat (wA i j ob s) q=if q=j then ob else if q=i then .dead else(sat s q).kV (tu i j)
 |[]=>by by_cases h:q=j<;>simp[wA,sat,h,Ob.kV]
 |(p,x)::r=>by
  simp only[wA];by_cases hp:p=i\/p=j
  ·rw[ah hp,BU i j ob q r];by_cases h1:q=j
   ·simp[h1]
   ·by_cases h2:q=i
    ·simp[h2]
    ·have:q≠p:=by rintro rfl;exact hp.elim h2 h1
     simp only[h1,h2,aE,sat,this]
  ·rw[ak hp];simp only[sat,BU i j ob q r];by_cases h1:q=p
   ·subst h1;have h2:¬q=i:=fun e=>hp (.inl e)
    have h3:¬q=j:=fun e=>hp (.inr e)
    simp[h2,h3]
   ·simp[h1]
theorem Inv.YP{C:Ctx}{β:iE}{s s':ij}{w:World}(h:Inv C β s w){i j:Nat}(hi:C.k<=i)(hj:C.k<=j)(hij:i≠j)(hd:sat s j=.dead)
 (hs:∀q,sat s' q=if q=j then(sat s i).kV (tu i j)else if q=i then .dead else(sat s q).kV (tu i j)):
 Inv C (ru i j β) s' w/\∀x v,AV.ok β (C.ir β s) w x v->AV.ok (ru i j β) (C.ir (ru i j β) s') w (x.kV (tu i j)) v:=by
 have from_:∀q,(q=i/\sat s' q=.dead)\/∃p,sat s' q=(sat s p).kV (tu i j)/\ru i j β q=β p/\(p=if q=j then i else q):=fun q=>by
  by_cases h1:q=j
  ·subst h1;exact .inr ⟨i,by rw[hs,ah rfl],by simp[ru],by simp⟩
  ·by_cases h2:q=i
   ·subst h2;exact .inl ⟨rfl,by rw[hs,ak h1,ah rfl]⟩
   ·exact .inr ⟨q,by rw[hs,ak h1,ak h2],by simp[ru,h1,h2],by simp[h1]⟩
 have hown:∀b o,own (ru i j β) s' b o<->own β s b o:=fun b o=>by
  constructor
  ·rintro⟨q,hq⟩;rcases from_ q with⟨_,h1⟩|⟨p,h1,h2,_⟩
   ·rw[h1]at hq;exact hq.elim
   ·exact⟨p,(sF (i:=p) (j:=q) h2 h1).1 hq⟩
  ·rintro⟨p,hp⟩;by_cases h1:p=i
   ·subst h1;exact⟨j,(sF (i:=p) (j:=j) (ρ:=tu p j) (by simp[ru]) (by rw[hs,ah rfl])).2 hp⟩
   ·by_cases h2:p=j
    ·subst h2;rw[hd]at hp;exact hp.elim
    ·exact⟨p,(sF (i:=p) (j:=p) (ρ:=tu i j) (by simp[ru,h1,h2]) (by rw[hs,ak h2,ak h1])).2 hp⟩
 have hblk:∀q b,ic (ru i j β) s' q b->∃p,ic β s p b/\(p=if q=j then i else q)/\(q=j\/q≠i):=fun q b hq=>by
  rcases from_ q with⟨_,h1⟩|⟨p,h1,h2,h3⟩
  ·unfold ic at hq;rw[h1]at hq;exact hq.elim
  ·refine⟨p,(wE h2 h1).1 hq,h3,?_⟩;by_cases h4:q=j
   ·exact .inl h4
   ·refine .inr fun h5=>?_
    subst h5;unfold ic at hq;rw[hs,ak h4,ah rfl]at hq;exact hq.elim
 have hf:C.ir (ru i j β) s'=C.ir β s:=by funext b o;exact propext (or_congr dc (hown b o))
 have hρ:∀a b,tu i j a=some b->ru i j β b=β a:=fun a b hab=>by
  unfold tu at hab;split at hab
  ·rename_i h1;cases hab;subst h1;simp[ru]
  ·split at hab
   ·cases hab
   ·rename_i h1 h2;cases hab;simp[ru,h1,h2]
 refine⟨⟨h.size,h.io,h.gl,h.keep,h.qq,fun b o ho=>h.pO b o ((hown b o).1 ho),fun q b hb=>let⟨p,hp,_⟩:=hblk q b hb;h.tB p b hp,fun q hq=>?_,h.low,fun q=>?_,fun q q' b h1 h2=>?_⟩,
  fun x v hx=>by rw[hf];exact AV.uN hρ x v hx⟩
 ·have h1:q≠i:=by omega
  have h2:q≠j:=by omega
  simpa[ru,h1,h2]using h.pl q hq
 ·rw[hf];rcases from_ q with⟨h0,h1⟩|⟨p,h1,h2,_⟩
  ·rw[h1];subst h0;simp[vQ,ru,hij]
  ·rw[h1];have ho:=h.obs p;cases hp:sat s p with
   |dead=>rw[hp]at ho;exact h2.trans ho
   |obj t cs=>rw[hp]at ho;obtain⟨b,vs,k1,k2,k3,k4⟩:=ho;exact⟨b,vs,h2.trans k1,k2,k3,k4.imp fun _ hx=>AV.ve hρ _ _ hx⟩
   |tok t e n=>rw[hp]at ho;obtain⟨u,k1,k2⟩:=ho;exact⟨u,h2.trans k1,k2⟩
   |kQ t e n cs=>rw[hp]at ho;obtain⟨u,k1,k2⟩:=ho;exact⟨u,h2.trans k1,k2⟩
   |pF t e n cs=>
    rw[hp]at ho;obtain⟨u,bs,k1,k0,k2⟩:=ho;refine⟨u,bs,h2.trans k1,k0,?_⟩;show Ga _ _ _ _ _ _ _ _ (AV.i_ _ cs);rw[od];exact k2.imp (fun x v=>rO fun hx=>AV.uN hρ _ _ hx) (fun _ _=>rfl) (fun _ _ _=>rfl)
   |uq e n cs=>
    rw[hp]at ho;obtain⟨u,bs,k1,k0,k2⟩:=ho;refine⟨u,bs,h2.trans k1,k0,?_⟩;show Gb _ _ _ _ _ _ _ (AV.i_ _ cs);rw[od];exact k2.imp (fun x v=>rO fun hx=>AV.uN hρ _ _ hx) (fun _ _=>rfl) (fun _ _ _ _=>rfl)
   |mp P k es=>rw[hp]at ho;obtain⟨b,k1,k2⟩:=ho;exact⟨b,h2.trans k1,k2⟩
 ·obtain⟨p,hp,e1,e2⟩:=hblk q b h1;obtain⟨p',hp',e3,e4⟩:=hblk q' b h2;have:=h.inj p p' b hp hp';subst this;rw[e1]at e3;by_cases h5:q=j<;>by_cases h6:q'=j<;>simp[h5,h6]at e3 e2 e4⊢<;>first|exact e3|exact absurd e3.symm e4|exact absurd e3 e2|skip
theorem jw.move{k:Nat}{x:AV}{s:ij}(i j:Nat){ob:Ob}(hi:k<=i)(hj:k<=j)(hij:i≠j)(hd:sat s j=.dead)(ho:(sat s i).kV (tu i j)=ob):
 jw k x s (x.kV (tu i j)) (wA i j ob s):=fun C β w v hC h3 h4=>by
 subst hC;obtain⟨h5,h6⟩:=h3.YP (s':=wA i j ob s) hi hj hij hd fun q=>by rw[BU,ho]
 exact⟨_,h5,h6 x v h4⟩
class Av {α:Type} (f:α->D):Prop where
 one:∀x,iq (f x)=[f x]
instance:wC iD 1:=⟨fun _=>rfl⟩
instance:wC bD 1:=⟨fun _=>rfl⟩
instance{k:IntKind}:wC (kD k) 1:=⟨fun _=>rfl⟩
instance:wC sD 1:=⟨fun _=>rfl⟩
instance{α:Type}{e:Nat}{f:α->D}:wC (ia e f) 1:=⟨fun _=>rfl⟩
instance:Av iD:=⟨fun _=>rfl⟩
instance:Av bD:=⟨fun _=>rfl⟩
instance{k:IntKind}:Av (kD k):=⟨fun _=>rfl⟩
instance:Av sD:=⟨fun _=>rfl⟩
instance{α:Type}{e:Nat}{f:α->D}:Av (ia e f):=⟨fun _=>rfl⟩
section
variable{α:Type}[Inhabited α]{f:α->D}{e:Nat}{xs ys:List α}{i k n:Nat}{y:α}{d:D}{ds:List D}
theorem GQ[wC f e](hi:i<xs.length)(hk:0<e):(kP f xs).getD (i*e) d=(iq (f (xs.getD i default))).getD 0 d:=LF (k:=0) wC.len hi hk
theorem Of[wC f 1](hi:i<xs.length):(kP f xs).getD i d=(iq (f (xs.getD i default))).getD 0 d:=by have:=GQ (f:=f) (e:=1) (d:=d) hi gY;rwa [Nat.mul_one]at this
omit [Inhabited α]in
theorem Rc[wC f e]:(kP f xs).length=xs.length*e:=B9 wC.len xs
omit [Inhabited α]in
theorem Oe:List.flatMap iq (List.map f ys)=kP f ys:=rfl
omit [Inhabited α]in
theorem Rb:kP f xs++kP f ys=kP f (xs++ys):=B8.symm
omit [Inhabited α]in
theorem Kb[Av f]:kP f xs=xs.map f:=by
 induction xs with
 |nil=>rfl
 |cons x xs ih=>rw[sC,Av.one,ih];rfl
omit [Inhabited α]in
theorem LH[Av f]:kP f xs++f y::ds=kP f (xs++[y])++ds:=by rw[B8,sC,Av.one,GP,aG];rfl
omit [Inhabited α]in
theorem GR[Av f](hi:i<xs.length):List.take i (kP f xs)++f y::List.drop (i+1) (kP f xs)=kP f (xs.set i y):=by rw[Kb,Kb,List.map_set,ew,ah (by simpa using hi)]
omit [Inhabited α]in
theorem LG[Av f](hi:i<xs.length):List.take i (kP f xs)++[f y]++List.drop (i+1) (kP f xs)=kP f (xs.set i y):=by rw[aG];exact GR hi
omit [Inhabited α]in
theorem N7[wC f e]{id:Nat}:AV.nk id (xs.map f) (.nr e id xs.length)=.d (ia e f xs):=N8 wC.len
omit [Inhabited α]in
theorem iL.Q4[wC f e]{k0 t:Nat}{env:List AV}{s:ij}(id:Nat)(f':α->D)(hf:f'=f)(xs:List α)(hid:k0<=id)(ho:sat s id=.kQ t e xs.length (kP f xs)):
 iL k0 env s (AV.pT id (xs.map f') env) (tD id (xs.map f') s):=by subst hf;exact iL.Q6 id f' xs hid ho wC.len
omit [Inhabited α]in
theorem jw.aaz[wC f e]{k0 t:Nat}{x:AV}{s:ij}(id:Nat)(f':α->D)(hf:f'=f)(xs:List α)(hid:k0<=id)(ho:sat s id=.kQ t e xs.length (kP f xs)):
 jw k0 x s (x.nk id (xs.map f')) (tD id (xs.map f') s):=by subst hf;exact jw.nk id hid (.kQ f' xs ho wC.len)
end
attribute [go_sem] GQ Of Rc Oe Rb LH GR LG sC GP
attribute [go_sem] BF Dr
theorem Lp{e id n:Nat}:AV.cells (.nr e id n)=some [.nr e id n]:=rfl
theorem Ir{id k off:Nat}:AV.cells (.lP id k off)=some [.lP id k off]:=rfl
theorem Pv{e id n:Nat}{xs:List AV}:AV.qE (.nr e id n::xs)=none:=rfl
theorem Ml{id k off:Nat}{xs:List AV}:AV.qE (.lP id k off::xs)=none:=rfl
attribute [go_sem] Lp Ir Pv Ml tu wA
theorem iC.Ws{P:Program}{f:Nat}{args:List AV}{s:ij}{k:Nat}{z:AV}(h:iC P f args s k fun x s'=>∃y t,jw k x s' y t/\AV.le y z):iC P f args s k fun x _=>x=z:=fun C vs h1 h2 h3 h4=>
 (h C vs h1 h2 h3 h4).mono fun _ w' ⟨v,_,β',_,e1,e2,e3,_,t,e4,e5⟩=>let⟨β2,h5,h6⟩:=e4 C β' w' v h2 e2 e3;⟨v,z,β2,t,e1,h5,e5 _ _ _ _ h6,rfl⟩
theorem kH.T_{P:Program}{f:Nat}{mc:ie}{n:Nat}{rs:List tc}(h:kH P f mc n rs){args:List D}{r:D}
 (hm:nj P 0 mc (GI rs fun x s'=>∃y t,jw 0 x s' y t/\AV.le y (.d r)) (args.map .d++List.replicate (n-(args.map AV.d).length) .ig) []):jU P f args r:=iC.Ws (h.calls hm)
section
variable{α:Type}{f:α->D}{e:Nat}{xs:List α}
theorem Dq[wC f e]{id n:Nat}(h:n=xs.length):AV.nk id (xs.map f) (.nr e id n)=.d (ia e f xs):=by subst h;exact N7
theorem iL.Q7[wC f e]{k0 t n:Nat}{env:List AV}{s:ij}{ds:List D}(id:Nat)(f':α->D)(hf:f'=f)(xs:List α)(hid:k0<=id)(ho:sat s id=.kQ t e n ds)(hn:n=xs.length)(hs:ds=kP f xs):
 iL k0 env s (AV.pT id (xs.map f') env) (tD id (xs.map f') s):=by subst hn;subst hs;exact iL.Q4 id f' hf xs hid ho
theorem jw.aaB[wC f e]{k0 t n:Nat}{x:AV}{s:ij}{ds:List D}(id:Nat)(f':α->D)(hf:f'=f)(xs:List α)(hid:k0<=id)(ho:sat s id=.kQ t e n ds)(hn:n=xs.length)(hs:ds=kP f xs):
 jw k0 x s (x.nk id (xs.map f')) (tD id (xs.map f') s):=by subst hn;subst hs;exact jw.aaz id f' hf xs hid ho
end
attribute [go_sem] Dq
theorem Wy{d:D}{ds:List D}:List.flatMap iq (d::ds)=iq d++List.flatMap iq ds:=cX
theorem Wz:List.flatMap iq []=[]:=rfl
attribute [go_sem] Wy Wz
def jZ{α:Type}(t:Prop)(x:Option α)(P:α->Prop):Prop:=(∀a,x=some a->P a)/\(t->∃a,x=some a)
theorem jZ.some{α:Type}{t:Prop}{a:α}{P:α->Prop}(h:P a):jZ t (Option.some a) P:=⟨fun b hb=>by cases hb;exact h,fun _=>⟨a,rfl⟩⟩
theorem jZ.bind{α β:Type}{t:Prop}{x:Option α}{f:α->Option β}{P:α->Prop}{Q:β->Prop}(h:jZ t x P)(hf:∀a,P a->jZ t (f a) Q):jZ t (x.bind f) Q:=
 ⟨fun b hb=>let⟨a,h1,h2⟩:=au.1 hb;(hf a (h.1 a h1)).1 b h2,fun ht=>by
  obtain⟨a,ha⟩:=h.2 ht;obtain⟨b,hb⟩:=(hf a (h.1 a ha)).2 ht;exact⟨b,by rw[ha,aa,hb]⟩⟩
theorem jZ.ite{α:Type}{t:Prop}{c:Bool}{x y:Option α}{P:α->Prop}(h1:c=true->jZ t x P)(h2:c=false->jZ t y P):jZ t (if c=true then x else y) P:=by
 cases c with
 |true=>simpa using h1 rfl
 |false=>simpa using h2 rfl
theorem jZ.weak{α:Type}{t t':Prop}{x:Option α}{P:α->Prop}(h:jZ t x P)(ht:t'->t):jZ t' x P:=⟨h.1,fun hx=>h.2 (ht hx)⟩
theorem jZ.inr{σ β:Type}{t:Prop}{x:Option β}{P:σ⊕β->Prop}(h:jZ t x fun b=>P (.inr b)):jZ t (x.map Sum.inr) P:=
 ⟨fun a ha=>by
  cases x with
  |none=>cases ha
  |some b=>cases ha;exact h.1 b rfl,fun ht=>let⟨a,ha⟩:=h.2 ht;⟨.inr a,by rw[ha];rfl⟩⟩
theorem jZ.eq{α:Type}{x:Option α}{a:α}(h:jZ True x (·=a)):x=Option.some a:=by obtain⟨b,hb⟩:=h.2 trivial;rw[hb,h.1 b hb]
theorem jZ.of{α:Type}{t:Prop}{x:Option α}{a:α}{P:α->Prop}(h:x=Option.some a)(hp:P a):jZ t x P:=by rw[h];exact .some hp
theorem jZ.get{α:Type}{x:Option α}{P:α->Prop}(h:jZ True x P):∃a,x=Option.some a/\P a:=by obtain⟨b,hb⟩:=h.2 trivial;exact⟨b,hb,h.1 b hb⟩
theorem jZ.Qj{α β:Type}{t:Prop}{xs:List α}{a b:Option β}{P:β->Prop}(h:jZ t b P)(he:xs=[]->a=b):jZ t (K9 xs a b) P:=by
 unfold K9;split
 ·rename_i hx;rw[ah (he hx)];exact h
 ·exact h
def zL{σ β:Type}(inv:σ->Prop)(μ:σ->Nat)(Q:β->Prop)(m:Nat):σ⊕β->Prop
 |.inl s'=>inv s'/\μ s'<m
 |.inr b=>Q b
theorem jZ.loop{σ β:Type}{t:Prop}{f:σ->Option (σ⊕β)}{Q:β->Prop}(inv:σ->Prop)(μ:σ->Nat){s:σ}(h0:inv s)(h:∀s,inv s->jZ t (f s) (zL inv μ Q (μ s))):jZ t (iw f s) Q:=by
 constructor
 ·intro b hb;obtain⟨n,hn⟩:=qC hb;clear hb;induction n generalizing s with
  |zero=>exact hn.elim
  |succ n ih=>
   rcases hn with hn|⟨s',hs,hn⟩
   ·exact(h s h0).1 _ hn
   ·exact ih ((h s h0).1 _ hs).1 hn
 ·intro ht;have key:∀n s,μ s=n->inv s->∃b,iw f s=Option.some b:=by
   intro n;induction n using Nat.strongRecOn with
   |_ n ih=>
    intro s hn hs;obtain⟨r,hr⟩:=(h s hs).2 ht;have:=(h s hs).1 r hr;cases r with
    |inl s'=>obtain⟨b,hb⟩:=ih (μ s') (hn▸this.2) s' rfl this.1;exact⟨b,by rw[iI hr,hb]⟩
    |inr b=>exact⟨b,iz hr⟩
  exact key _ s rfl h0
theorem jZ.Zo{α:Type}{t:Prop}{f:Nat->Option α}{P:α->Prop}(m:Nat)(h:∀n,jZ (m<=n) (f n) P):jZ t (Cx f) P:=by
 constructor
 ·intro a ha;obtain⟨n,hn⟩:=t_ ha;exact(h n).1 a hn
 ·intro _;obtain⟨a,ha⟩:=(h m).2 (aF _);have hx:∃a n,f n=Option.some a:=⟨a,m,ha⟩;unfold Cx;rw[dif_pos hx];exact⟨_,rfl⟩
def oI{α:Type}(e:Nat)(f:α->D)(xs:List α):D:=.sl e (some xs.isEmpty) (xs.map f)
section
variable{α:Type}{e id:Nat}{f:α->D}{xs:List α}{O:Own}{w:World}
theorem Sl:qF (.d (oI e f xs))=some (e,xs.map f):=rfl
theorem RK:yX (.d (oI e f xs))=some xs.isEmpty:=rfl
theorem Lt:AV.cells (.d (oI e f xs))=some [.d (oI e f xs)]:=rfl
theorem H9:AV.CY (.d (oI e f xs))=none:=rfl
theorem Iy:iq (oI e f xs)=[oI e f xs]:=rfl
theorem DL.nz(h:0<xs.length):DL (ia e f xs) (oI e f xs):=fun O w v hv=>by
 simp only[ia,oI,D.ok]at hv⊢;obtain⟨a,cap,h1,h2,_,h4⟩:=hv;refine⟨a,cap,h1,h2,?_,h4⟩;have hne:xs≠[]:=cq.1 h;have he:xs.isEmpty=false:=by simpa using hne
 rcases h4 with h4|⟨b,o,rfl,_⟩
 ·exact absurd (List.map_eq_nil_iff.1 h4) hne
 ·simp[K7,he]
theorem DL.T7:DL (oI e f xs) (ia e f xs):=DL.forget
theorem DL.Vo{e':Nat}:DL (.sl e' (some true) []) (oI e f []):=fun O w v hv=>by
 simp only[oI,D.ok,dr]at hv⊢;obtain⟨a,cap,h1,h2,h3,h4⟩:=hv;exact⟨a,cap,h1,h2,h3,.inl trivial⟩
theorem zC(h:0<xs.length):AV.le (.d (ia e f xs)) (.d (oI e f xs))<->True:=⟨fun _=>trivial,fun _=>AV.xO (DL.nz h)⟩
theorem vE(h:0<xs.length):AV.le (.own e id (xs.map f)) (.d (oI e f xs))<->True:=⟨fun _=>trivial,fun _=>AV.Rs fun O w v hv=>DL.nz h O w v hv⟩
theorem IY{e':Nat}:AV.le (.d (.sl e' (some true) [])) (.d (oI e f []))<->True:=⟨fun _=>trivial,fun _=>AV.xO DL.Vo⟩
end
theorem O1{α:Type}{e e':Nat}{f:α->D}{O:Own}{w:World}{b:Nat}:∀{o:Nat}{xs:List (List α)},D.row O w b o e (xs.map (oI e' f))->D.row O w b o e (xs.map (ia e' f))
 |_,[],h=>h
 |o,x::xs,h=>by
  simp only[aP,oI,ia,D.row]at h⊢;obtain⟨⟨v,h1,h2,h3⟩,h4⟩:=h;exact⟨⟨v,h1,h2,DL.T7 _ _ _ h3⟩,O1 h4⟩
theorem DL.Za{α:Type}{e e':Nat}{f:α->D}{nl:Option Bool}{xs:List (List α)}:DL (.sl e nl (xs.map (oI e' f))) (.sl e none (xs.map (ia e' f))):=fun O w v hv=>by
 simp only[D.ok,aM,List.map_eq_nil_iff]at hv⊢;obtain⟨a,cap,h1,h2,_,h4⟩:=hv;refine⟨a,cap,h1,h2,trivial,h4.imp (fun h=>h) ?_⟩;rintro⟨b,o,h5,h6⟩;exact⟨b,o,h5,O1 h6⟩
instance{α:Type}{e:Nat}{f:α->D}:wC (oI e f) 1:=⟨fun _=>rfl⟩
instance{α:Type}{e:Nat}{f:α->D}:Av (oI e f):=⟨fun _=>rfl⟩
theorem iS.set:∀{xs:List AV}{i:Nat}{a b:AV},AV.le a b->iS (xs.set i a) (xs.set i b)
 |[],_,_,_,_=>trivial
 |_::xs,0,_,_,h=>⟨h,.refl xs⟩
 |x::_,i+1,_,_,h=>⟨AV.le_refl x,iS.set h⟩
theorem Rv{α:Type}{f:α->D}{xs:List α}{i:Nat}{a:AV}{v:α}(h:i<xs.length)(hle:AV.le a (.d (f v))):
 iS (List.take i (xs.map (aD f))++(a::List.drop (i+1) (xs.map (aD f)))) ((xs.set i v).map (aD f)):=by
 have e1:List.take i (xs.map (aD f))++(a::List.drop (i+1) (xs.map (aD f)))=(xs.map (aD f)).set i a:=by rw[ew,ah (by simpa using h)]
 rw[e1,List.map_set];exact iS.set hle
attribute [go_sem] Sl RK Lt H9 Iy IY
theorem k_{α β:Type}{f:α->β}{l:List α}{n:Nat}:List.take n (List.map f l)=List.map f (List.take n l):=List.map_take.symm
theorem kY{α β:Type}{f:α->β}{l:List α}{n:Nat}:List.drop n (List.map f l)=List.map f (List.drop n l):=List.map_drop.symm
theorem mI{α:Type}{l:List α}{n:Nat}(h:l.length<=n):List.take n l=l:=bL h
theorem mH{α:Type}{l:List α}{n:Nat}(h:l.length<=n):List.drop n l=[]:=bG h
theorem CC:kN [] []:=trivial
theorem zR{i:Nat}{x y:Ob}{r r':ij}(h:zJ x y)(hr:kN r r'):kN ((i,x)::r) ((i,y)::r'):=⟨rfl,h,hr⟩
theorem G8{α:Type}{f:α->D}{xs:List α}{i:Nat}{a:AV}{v:α}(h:i<xs.length)(hle:AV.le a (.d (f v))):
 iS (List.map (aD f) (List.take i xs)++[a]++List.map (aD f) (List.drop (i+1) xs)) ((xs.set i v).map (aD f)):=by
 have:=Rv (f:=f) (xs:=xs) (i:=i) (a:=a) (v:=v) h hle;rw[aG];simpa only[bM,bR,bP,bp]using this
theorem UQ:iS [] []:=trivial
theorem UP{x y:AV}{xs ys:List AV}(h:AV.le x y)(h':iS xs ys):iS (x::xs) (y::ys):=⟨h,h'⟩
theorem UN:qu [] []:=trivial
theorem UM{x y:D}{xs ys:List D}(h:D.le x y)(h':qu xs ys):qu (x::xs) (y::ys):=⟨h,h'⟩
theorem xJ{e e':Nat}{nl:Option Bool}:D.le (.sl e nl []) (.sl e' none []):=fun O w vs h=>by
 simp only[D.HT]at h⊢;obtain⟨v,h1,h2⟩:=h;exact⟨v,h1,DL.nil _ _ _ h2⟩
theorem sj{e:Nat}{nl:Option Bool}{xs:List D}:D.le (.sl e nl xs) (.sl e none xs):=fun O w vs h=>by
 simp only[D.HT]at h⊢;obtain⟨v,h1,h2⟩:=h;exact⟨v,h1,DL.forget _ _ _ h2⟩
theorem xI{xs ys:List D}(h:Uu xs ys):D.le (.agg xs) (.agg ys):=fun O w vs hv=>by
 simp only[D.HT]at hv⊢;exact h.iK hv
theorem IZ{α:Type}{e:Nat}{f:α->D}{xs:List α}:AV.le (.d (oI e f xs)) (.d (.sl e none (xs.map f)))<->True:=⟨fun _=>trivial,fun _=>AV.xO DL.T7⟩
theorem I1{α:Type}{e e':Nat}{f:α->D}{xs:List (List α)}:AV.le (.d (.sl e none (xs.map (oI e' f)))) (.d (.sl e none (xs.map (ia e' f))))<->True:=⟨fun _=>trivial,fun _=>AV.xO DL.Za⟩
attribute [go_sem] IZ I1
theorem XM{α:Type}{x:AV}{f:α->D}{v:α}:AV.le x (aD f v)=AV.le x (.d (f v)):=(rfl)
theorem KL{α:Type}{f:α->D}{xs:List α}{i:Nat}{v:α}(h:i<xs.length):List.map (aD f) (List.take i xs)++(AV.d (f v)::List.map (aD f) (List.drop (i+1) xs))=(xs.set i v).map (aD f):=by rw[bM,bR];exact Pa h
theorem Pb{α:Type}{f:α->D}{xs:List α}{i:Nat}{v:α}(h:i<xs.length):List.map (aD f) (List.take i xs)++[AV.d (f v)]++List.map (aD f) (List.drop (i+1) xs)=(xs.set i v).map (aD f):=by rw[aG];exact KL h
attribute [go_sem] XM KL Pb
theorem iN{p q:Prop}(hq:q)(h:p=q:=by first|((conv=>lhs;simp(maxSteps:=1000000) (disch:=omega)only[go_sem,k_,kY,mI,mH,bF,aW,bp,Nat.reduceAdd,Nat.reduceSub,Nat.reduceLeDiff,Nat.reduceEqDiff,Nat.reduceLT,Int.reduceToNat,reduceIte,reduceCtorEq])<;>rfl)|rfl):p:=h▸hq
theorem rz{c p q:Prop}(hc:c)(hq:q)(h:p=q:=by first|((conv=>lhs;simp(maxSteps:=1000000) (disch:=omega)only[go_sem,k_,kY,mI,mH,bF,aW,bp,Nat.reduceAdd,Nat.reduceSub,Nat.reduceLeDiff,Nat.reduceEqDiff,Nat.reduceLT,Int.reduceToNat,reduceIte,reduceCtorEq,hc])<;>rfl)|rfl):p:=h▸hq
theorem mT{p:Prop}(h:p:=by first|(simp only[go_sem,ia,aR,bM,bR,aG,Nat.reduceAdd,Nat.reduceSub,Nat.reduceLeDiff,Nat.reduceEqDiff,Nat.reduceLT,reduceIte,reduceCtorEq];done)|((try simp only[go_sem,ia,aR,bM,bR,aG,Nat.reduceAdd,Nat.reduceSub,Nat.reduceLeDiff,Nat.reduceEqDiff,Nat.reduceLT,reduceIte,reduceCtorEq];repeat' (first|exact AV.le_refl _|refine And.intro ?_ ?_|refine AV.yT ?_|refine AV.we ?_|refine AV.Ao ?_|refine AV.xO (DL.agg ?_)|exact UQ|exact CC|refine UP ?_ ?_|refine zR ?_ ?_|exact UN|refine UM ?_ ?_|exact sv (AV.xO DL.nil) _|exact D.le_refl _|exact xJ|exact sj|refine xI ?_|(simp only[go_sem,ia,aR,bM,bR,aG,Nat.reduceAdd,Nat.reduceSub,Nat.reduceLeDiff,Nat.reduceEqDiff,Nat.reduceLT,reduceIte,reduceCtorEq];done)|refine qu.append (qu.refl _) ?_|refine AV.tZ ?_|refine AV.DH ?_|omega));done)):p:=h
section
variable{P:Program}{k0 f:Nat}{args env:List AV}{s:ij}{d:Option Nat}{R:List AV->ij->Prop}{F:List (List Nat×List Nat)->List AV->ij->Prop}{ms:List iJ}{acc:List (List Nat×List Nat)}{foot:List Nat}
end
theorem wk{k:Nat}{env env':List AV}{s s':ij}(h:iS env env':=by first|(simp only[go_sem,ia,aR,bM,bR,aG,Nat.reduceAdd,Nat.reduceSub,Nat.reduceLeDiff,Nat.reduceEqDiff,Nat.reduceLT,reduceIte,reduceCtorEq];done)|((try simp only[go_sem,ia,aR,bM,bR,aG,Nat.reduceAdd,Nat.reduceSub,Nat.reduceLeDiff,Nat.reduceEqDiff,Nat.reduceLT,reduceIte,reduceCtorEq];repeat' (first|exact AV.le_refl _|refine And.intro ?_ ?_|refine AV.yT ?_|refine AV.we ?_|refine AV.Ao ?_|refine AV.xO (DL.agg ?_)|exact UQ|exact CC|refine UP ?_ ?_|refine zR ?_ ?_|exact UN|refine UM ?_ ?_|exact sv (AV.xO DL.nil) _|exact D.le_refl _|exact xJ|exact sj|refine xI ?_|(simp only[go_sem,ia,aR,bM,bR,aG,Nat.reduceAdd,Nat.reduceSub,Nat.reduceLeDiff,Nat.reduceEqDiff,Nat.reduceLT,reduceIte,reduceCtorEq];done)|refine qu.append (qu.refl _) ?_|refine AV.tZ ?_|refine AV.DH ?_|omega));done))(hs:kN s s':=by first|(simp only[go_sem,ia,aR,bM,bR,aG,Nat.reduceAdd,Nat.reduceSub,Nat.reduceLeDiff,Nat.reduceEqDiff,Nat.reduceLT,reduceIte,reduceCtorEq];done)|((try simp only[go_sem,ia,aR,bM,bR,aG,Nat.reduceAdd,Nat.reduceSub,Nat.reduceLeDiff,Nat.reduceEqDiff,Nat.reduceLT,reduceIte,reduceCtorEq];repeat' (first|exact AV.le_refl _|refine And.intro ?_ ?_|refine AV.yT ?_|refine AV.we ?_|refine AV.Ao ?_|refine AV.xO (DL.agg ?_)|exact UQ|exact CC|refine UP ?_ ?_|refine zR ?_ ?_|exact UN|refine UM ?_ ?_|exact sv (AV.xO DL.nil) _|exact D.le_refl _|exact xJ|exact sj|refine xI ?_|(simp only[go_sem,ia,aR,bM,bR,aG,Nat.reduceAdd,Nat.reduceSub,Nat.reduceLeDiff,Nat.reduceEqDiff,Nat.reduceLT,reduceIte,reduceCtorEq];done)|refine qu.append (qu.refl _) ?_|refine AV.tZ ?_|refine AV.DH ?_|omega));done)):iL k env s env' s':=iL.V8 h hs
theorem jw.aaA{α:Type}{k:Nat}{x:AV}{s:ij}(id:Nat){t:Nat}(f:α->D)[Av f](xs:List α)(hid:k<=id)(ho:sat s id=.obj t (xs.map (aD f))):
 jw k x s (x.nk id (xs.map f)) (tD id (xs.map f) s):=
 jw.nk id hid (.inl ⟨t,by rw[ho,I_],fun d h=>by obtain⟨x,_,rfl⟩:=bz.1 h;exact Av.one x⟩)
theorem El{p:Prop}(h:p:=by(try simp(disch:=first|omega|(simp only[ai,aQ,bN,fo,aM,eE,Nat.reduceAdd]<;>fail)|fail)only[Ap,AV.kV,AV.i_,tu,iM,Fw,Ft,BI,Du,AQ,GN,BG,Dq,BF,N5,Dt,Fu,IF,IG,Fv,Dr]);first|(simp only[go_sem,ia,aR,bM,bR,aG,Nat.reduceAdd,Nat.reduceSub,Nat.reduceLeDiff,Nat.reduceEqDiff,Nat.reduceLT,reduceIte,reduceCtorEq];done)|((try simp only[go_sem,ia,aR,bM,bR,aG,Nat.reduceAdd,Nat.reduceSub,Nat.reduceLeDiff,Nat.reduceEqDiff,Nat.reduceLT,reduceIte,reduceCtorEq];repeat' (first|exact AV.le_refl _|refine And.intro ?_ ?_|refine AV.yT ?_|refine AV.we ?_|refine AV.Ao ?_|refine AV.xO (DL.agg ?_)|exact UQ|exact CC|refine UP ?_ ?_|refine zR ?_ ?_|exact UN|refine UM ?_ ?_|exact sv (AV.xO DL.nil) _|exact D.le_refl _|exact xJ|exact sj|refine xI ?_|(simp only[go_sem,ia,aR,bM,bR,aG,Nat.reduceAdd,Nat.reduceSub,Nat.reduceLeDiff,Nat.reduceEqDiff,Nat.reduceLT,reduceIte,reduceCtorEq];done)|refine qu.append (qu.refl _) ?_|refine AV.tZ ?_|refine AV.DH ?_|omega));done)):p:=h
theorem aa0{p q:Prop}(hq:q)(h:p=q:=by first|((conv=>lhs;simp(disch:=first|omega|(simp only[ai,aQ,bN,fo,aM,eE,Nat.reduceAdd]<;>fail)|fail)only[Fw,Ft,BI,Du,AQ,GN,BG,Dq,BF,N5,Dt,Fu,IF,IG,Fv,Dr])<;>rfl)|rfl):p:=h▸hq
section
variable{α:Type}{f:α->D}{e:Nat}
theorem jw.fz[wC f e]{k0 t n:Nat}{x:AV}{s:ij}{ds:List D}(id:Nat)(f':α->D)(hf:f'=f)(xs:List α)(ho:sat s id=.kQ t e n ds:=by exact rfl)(hid:k0<=id:=by omega)(hn:n=xs.length:=by simp)
 (hs:ds=kP f xs:=by first|rfl|simp only[go_sem,ia,aR,bM,bR,aG,Nat.reduceAdd,Nat.reduceSub,Nat.reduceLeDiff,Nat.reduceEqDiff,Nat.reduceLT,reduceIte,reduceCtorEq]):jw k0 x s (x.nk id (xs.map f')) (tD id (xs.map f') s):=jw.aaB id f' hf xs hid ho hn hs
theorem iL.fz[wC f e]{k0 t n:Nat}{env:List AV}{s:ij}{ds:List D}(id:Nat)(f':α->D)(hf:f'=f)(xs:List α)(ho:sat s id=.kQ t e n ds:=by exact rfl)(hid:k0<=id:=by omega)(hn:n=xs.length:=by simp)
 (hs:ds=kP f xs:=by first|rfl|simp only[go_sem,ia,aR,bM,bR,aG,Nat.reduceAdd,Nat.reduceSub,Nat.reduceLeDiff,Nat.reduceEqDiff,Nat.reduceLT,reduceIte,reduceCtorEq]):iL k0 env s (AV.pT id (xs.map f') env) (tD id (xs.map f') s):=iL.Q7 id f' hf xs hid ho hn hs
end
def Iter(P:Program)(gf:Nat)(caps:List AV)(els:List (List D)):Prop:=
 AV.i_ (fun _=>none) caps=caps/\(∀args w,(callFunc gf args).run P w=.ok (.enter gf args) w)/\
 ∀(O:Own)(W:World)(lb:Array Value),AV.iK (fun _=>.no) O W caps lb.toList->GW O W->(∀b o,O b o->b<W.heap.size)->
  ∀(l:Nat)(J Jx:Nat->Own->World->Prop),
   (∀i X A B row,J i X A->A.grownBy B row->(∀r,row=some r->W.heap.size<=r/\∃o:Obj,A.heap[r]?=some o/\Bo o)->J i X B)->
   (∀i X A B row,Jx i X A->A.grownBy B row->(∀r,row=some r->W.heap.size<=r/\∃o:Obj,A.heap[r]?=some o/\Bo o)->Jx i X B)->
   (∀i X W1 (vs:Array Value),i<els.length->J i X W1->AV.iK (fun _=>.no) X W1 ((els.getD i []).map .d) vs.toList->YieldAt Fence.wide 0 P l vs W1 fun e W'=>∃X',
    ((e=.returned (.bool true)/\J (i+1) X' W')\/(e=.returned (.bool false)/\Jx (i+1) X' W'))/\(∀b o,X' b o->b<W'.heap.size)/\
    ∀b o v,W1.cell? ⟨b,o,none⟩=some v->¬X b o->W'.cell? ⟨b,o,none⟩=some v/\¬X' b o)->
   J 0 O W->
   CallsIn Fence.wide 0 P gf (#[.func (.yield l) #[] #[]]++lb) W fun e W'=>(∃v,e=.returned v)/\((∃X,J els.length X W')\/∃m X,m<els.length/\Jx (m+1) X W')
def vD(K:Nat):Nat->Option Nat:=fun i=>if i<K then some i else none
theorem FI{β β':iE}{O:Own}{w:World}:∀{xs:List D}{vs:List Value},AV.iK β O w (xs.map .d) vs->AV.iK β' O w (xs.map .d) vs
 |[],vs=>fun h=>by simpa[AV.iK]using h
 |x::xs,vs=>fun h=>by
  simp only[aP,AV.iK,AV.ok]at h⊢;obtain⟨v,r,h1,h2,h3⟩:=h;exact⟨v,r,h1,h2,FI h3⟩
theorem Inv.stays{C:Ctx}{β:iE}{s:ij}{w:World}(h:Inv C β s w):∀b o v,C.w.cell? ⟨b,o,none⟩=some v->¬C.ir C.β C.s b o->w.cell? ⟨b,o,none⟩=some v/\¬C.ir β s b o:=by
 intro b o v hc hn;refine⟨h.keep b o v hc fun h2=>hn (.inr h2),fun h2=>?_⟩;rcases h2 with h2|h2
 ·exact hn (.inl h2)
 ·rcases h.pO b o h2 with h3|h3
  ·exact hn (.inr h3)
  ·have:=jW hc;omega
def sw(C:Ctx)(β:iE)(env:List AV)(s:ij)(a:Act)(w:World):Prop:=∀i x,env[i]?=some x->AV.ok β (C.ir β s) w x (a.tmps.getD i undef)
theorem sw.later{C:Ctx}{β:iE}{env:List AV}{s:ij}{a:Act}{w:World}(hfix:AV.i_ (vD C.k) env=env)(h:Inv C β s w)(he:sw C C.β env C.s a C.w):sw C β env s a w:=by
 intro i x hx;have h1:AV.ok (fun id=>if id<C.k then C.β id else .no) (C.ir C.β C.s) C.w (x.kV (vD C.k)) (a.tmps.getD i undef):=
  AV.uN (fun i j hij=>by
   unfold vD at hij;split at hij
   ·rename_i hlt;cases hij;simp[hlt]
   ·cases hij) x _ (he i x hx)
 have h2:x.kV (vD C.k)=x:=by
  have h3:(AV.i_ (vD C.k) env)[i]?=(env[i]?).map (AV.kV (vD C.k)):=rN _ _ _;rw[hfix,hx]at h3;simpa using h3.symm
 rw[h2]at h1;refine AV.iY h.stays (fun id=>?_) _ _ h1;by_cases hlt:id<C.k
 ·simp only[hlt,aC];exact h.pl id hlt
 ·simp only[hlt,aE];trivial
theorem sw.pN{C:Ctx}{β:iE}{env:List AV}{s:ij}{a:Act}{w w':World}{row:Option Nat}(h:sw C β env s a w)(hg:w.grownBy w' row)
 (hr:∀r,row=some r->∃o:Obj,w.heap[r]?=some o/\Bo o):sw C β env s a w':=
 fun i x hx=>AV.iY (fun _ _ _ hc hn=>⟨eL hc hg (Cy hr),hn⟩) (fun _=>.refl _) _ _ (h i x hx)
theorem Marks.now{C:Ctx}{β:iE}{s:ij}{w:World}{ds:List Deferred}(h:Marks C ds)(hi:Inv C β s w):
 ∃Ds:List Nat,ds=Ds.map yV/\Ds.Nodup/\∀D∈Ds,C.dom<=D/\D<C.w.heap.size/\w.heap[D]?=some (.deferred (some [])):=
 let⟨_,Ds,h1,h2,h3⟩:=h
 ⟨Ds,h1,h2,fun D hD=>let⟨h4,h5,h6,h7⟩:=h3 D hD;⟨h4,h5,(hi.qq D h5 h7).trans h6⟩⟩
theorem Marks.mk'{C C1:Ctx}{β:iE}{s:ij}{w:World}(hi:Inv C β s w)(hnm:C1.nm=false)(h1:C1.β=β)(h2:C1.s=s)(h3:C1.w=w){Ds:List Nat}(hn:Ds.Nodup)
 (hD:∀D∈Ds,C1.dom<=D/\w.heap[D]?=some (.deferred (some []))):Marks C1 (Ds.map yV):=
 ⟨(fun h=>by rw[hnm]at h;cases h),Ds,rfl,hn,fun D hd=>let⟨h4,h5⟩:=hD D hd;⟨h4,by rw[h3];exact(aV.1 h5).1,by rw[h3];exact h5,fun id hb=>by
  rw[h1,h2]at hb;exact hi.isCells hb h5 ⟨rfl,rfl⟩⟩⟩
theorem St.YU{C:Ctx}{β:iE}{s:ij}{w:World}:∀{ps:List Nat}{xs:List D}{vs:List Value}{env:List AV}{a:Act},St C β env s a w->AV.iK β (C.ir β s) w (xs.map .d) vs->
 St C β (oF env (ps.zip (xs.map .d))) s {a with tmps:=(ps.zip vs).foldl (fun t (p,v)=>t.setIfInBounds p v) a.tmps} w
 |[],xs,vs,env,a=>fun h _=>by simpa[oF]using h
 |p::ps,[],vs,env,a=>fun h hv=>by
  simp only[dr,AV.iK]at hv;subst hv;simpa[oF]using h
 |p::ps,x::xs,vs,env,a=>fun h hv=>by
  simp only[aP,AV.iK]at hv;obtain⟨v,r,rfl,h1,h2⟩:=hv;have:=St.YU (ps:=ps) (a:=a.put (some p) v) (h.put h1 (some p)) h2;simpa[oF,Act.put]using this
section
variable{P:Program}{k:Nat}{Q:Post}{env:List AV}{s:ij}
def Et{ι:Type}(K:Nat)(env:List AV)(S:ι->ij)(next:ι->Prop)(Q:Post):Post
 |.normal,env',s'=>∃i',next i'/\∃env'',iL K env' s' env'' (S i')
 |.ret,env',s'=>∃s'',(∃env'',iL K env' s' env'' s'')/\Q .ret env s''
 |.exit id,env',s'=>∃s'',(∃env'',iL K env' s' env'' s'')/\Q (.exit id) env s''
 |_,_,_=>False
theorem XT{g:Operand}{ps:List Nat}{x y:ie}{gf:Nat}{caps:List AV}{els:List (List D)}{ι:Type}(K:Nat)(hK:k<=K)(hfix:AV.i_ (vD K) env=env)
 (hflat:x.flat=true/\y.flat=true) (hg:ev env g=.fn gf [] caps) (it:Iter P gf caps els) (hps:∀i,i<els.length->(els.getD i []).length=ps.length)
 (S:ι->ij) (pos:ι->Nat) (inv:ι->Prop) (i0:ι) (h0:inv i0) (hp0:pos i0=0) (hw:iL k env s env (S i0))
 (round:∀i,inv i->pos i<els.length->nj P K x (xD (fun env1 s1=>nj P K y (Et K env S (fun i'=>inv i'/\pos i'=pos i+1) Q) env1 s1) fun _ _ _=>False)
  (oF env (ps.zip ((els.getD (pos i) []).map .d))) (S i))
 (done:∀i,inv i->pos i=els.length->Q .normal env (S i)):nj P k (.Es g ps x y) Q env s:=fun C hC hf c hc β a w hst=>by
 have hpl:C.plain:=by
  rcases hf with h|h
  ·simp[ie.flat]at h
  ·exact h
 obtain⟨hro,hnm,hdom⟩:=hpl;obtain⟨ps',ca,cb,rfl,hps',hx,hy⟩:=OH hc;obtain⟨β0,hst0⟩:=hw C β a w hC hst;have hF:C.oy=Fence.wide:=by unfold Ctx.oy;rw[hro];rfl
 have hgv:=hst0.ev g;rw[hg]at hgv;simp only[AV.ok,AV.iK]at hgv;obtain⟨fs,lb,hgv,hfs,hlb⟩:=hgv;have hfs:fs=#[]:=cz (by simpa using hfs);subst hfs;obtain⟨hids,henter,hit⟩:=it;have hbnd:∀{β:iE}{s:ij}{w:World},Inv C β s w->∀b o,C.ir β s b o->b<w.heap.size:=fun h b o hb=>by
  rcases hb with hb|hb
  ·exact ct (h.low b o hb).1 h.size
  ·exact h.BR hb
 let Cw:Ctx:={C with β:=β0,s:=S i0,w:=w,k:=C.k};have hCw:∀{β s w'},Inv Cw β s w'->Inv C β s w':=fun h=>hst0.inv.back h (aF _)
 have hforb:∀(C':Ctx) β s,C'.O=C.O->C'.ir β s=C.ir β s:=fun C' β s h=>by unfold Ctx.ir;rw[h]
 refine wpIn_rangeFunc fun fn hfn=>?_
 have hfr:C.oy.round=none:=hro;rw[hfr];obtain⟨rec,hrec⟩:∃rec:LoopState->Option Code->Loop,rec=fun st pe=>{state:=st,pending:=pe,fn,tmps:=a.tmps,params:=ps',assign:=ca,body:=cb,defers:=w.heap.size}:=⟨_,rfl⟩
 obtain⟨W1,hW1⟩:∃W1,(w.alloc (.deferred (some []))).alloc (.loop (rec .ready none))=W1:=⟨_,rfl⟩;have hg1:w.grownBy W1 none:=by
  rw[<-hW1];exact⟨rfl,rfl,rfl,by simp;omega,fun j hj _=>(aS _ _ _ (by simp;omega)).trans (aS w _ j hj)⟩
 have hL1:W1.heap[w.heap.size+1]?=some (.loop (rec .ready none)):=by rw[<-hW1];have:=cL (w.alloc (.deferred (some []))) (.loop (rec .ready none));rwa [World.size_alloc]at this
 have hK1:W1.heap[w.heap.size]?=some (.deferred (some [])):=by rw[<-hW1];exact(aS _ _ _ (by simp)).trans (cL w _)
 have hcall:=hit (C.ir β0 (S i0)) W1 lb (by
  have:=AV.ve (β':=fun _=>.no) (ρ:=fun _=>none) (fun i j h=>by cases h) _ _ hlb;rw[hids]at this;exact AV.jy (fun b o v hc hn=>⟨by rw[bJ (hg1.block b (jW hc) (by simp))];exact hc,hn⟩) (fun _=>.refl _) _ _ this)
  (hst0.inv.GO.mono fun b o v hc hn=>⟨by rw[bJ (hg1.block b (jW hc) (by simp))];exact hc,hn⟩)
  (fun b o h=>ct (hbnd hst0.inv b o h) hg1.size)
 let Jn:Nat->Own->World->Prop:=fun n X W=>(∃j,inv j/\pos j=n/\∃β',X=C.ir β' (S j)/\Inv Cw β' (S j) W/\sw C β' env (S j) a W/\∀b o v,W1.cell? ⟨b,o,none⟩=some v->¬C.ir β0 (S i0) b o->W.cell? ⟨b,o,none⟩=some v/\¬X b o)/\
  W.heap[w.heap.size+1]?=some (.loop (rec .ready none))/\W.heap[w.heap.size]?=some (.deferred (some []))
 let Jx:Nat->Own->World->Prop:=fun _ _ W=>∃jump s'' β',((jump=.ret/\Q .ret env s'')\/∃id,jump=.exit id/\Q (.exit id) env s'')/\Inv Cw β' s'' W/\sw C β' env s'' a W/\
  W.heap[w.heap.size+1]?=some (.loop (rec .done (some jump)))/\W.heap[w.heap.size]?=some (.deferred (some []))
 have hsz1:W1.heap.size=w.heap.size+2:=by rw[<-hW1];simp
 have gK:∀{A B:World}{row:Option Nat}{i:Nat}{o:Obj},A.grownBy B row->(∀r,row=some r->W1.heap.size<=r)->i<w.heap.size+2->A.heap[i]?=some o->B.heap[i]?=some o:=
  fun hg hr hi h=>(hg.block _ (aV.1 h).1 (fun e=>by have:=hr _ e.symm;omega)).trans h
 have hJn:∀i X A B row,Jn i X A->A.grownBy B row->(∀r,row=some r->W1.heap.size<=r/\∃o:Obj,A.heap[r]?=some o/\Bo o)->Jn i X B:=fun i X A B row ⟨⟨j,h1,h2,β',h0,h3,h4,h7⟩,h5,h6⟩ hg hr=>
  ⟨⟨j,h1,h2,β',h0,h3.pN hg (fun r e=>⟨by have:=(hr r e).1;show w.heap.size<=r;omega,(hr r e).2⟩),h4.pN hg (fun r e=>(hr r e).2),fun b o v k1 k2=>⟨eL (h7 b o v k1 k2).1 hg (Cy fun r e=>(hr r e).2),(h7 b o v k1 k2).2⟩⟩,
   gK hg (fun r e=>(hr r e).1) gY h5,gK hg (fun r e=>(hr r e).1) gY h6⟩
 have hJx:∀i X A B row,Jx i X A->A.grownBy B row->(∀r,row=some r->W1.heap.size<=r/\∃o:Obj,A.heap[r]?=some o/\Bo o)->Jx i X B:=fun i X A B row ⟨jump,s'',β',h1,h3,h4,h5,h6⟩ hg hr=>
  ⟨jump,s'',β',h1,h3.pN hg (fun r e=>⟨by have:=(hr r e).1;show w.heap.size<=r;omega,(hr r e).2⟩),h4.pN hg (fun r e=>(hr r e).2),gK hg (fun r e=>(hr r e).1) gY h5,gK hg (fun r e=>(hr r e).1) gY h6⟩
 have own2:∀{A:World}{i:Nat}{o:Obj}(o':Obj),w.heap.size<=i->A.heap[i]?=some o->Bo o->∀r,some i=some r->Cw.w.heap.size<=r/\∃o:Obj,A.heap[r]?=some o/\Bo o:=
  fun{A i o} _ h1 h2 h3 r e=>by cases e;exact⟨h1,o,h2,h3⟩
 refine⟨w.heap.size+1,[yV w.heap.size],W1,{target:=.fn (.func gf) lb,args:=#[.func (.yield (w.heap.size+1)) #[] #[]]},W1,gf,
  #[.func (.yield (w.heap.size+1)) #[] #[]]++lb,W1,?_,?_,?_,?_,fun h=>by simp[Ctx.oy]at h,?_⟩
 ·rw[<-hW1,hrec];exact run_enterLoop_outer _ _ _ _ _
 ·simp only[resolve,hgv];simp[go_sem]
 ·exact fun _ _=>trivial
 ·simp[invoke,go_sem,henter]
 ·rw[hF];refine(hcall (w.heap.size+1) Jn Jx hJn hJx ?_
   ⟨⟨i0,h0,hp0,β0,rfl,(hst0.inv.here).pN hg1 (fun r e=>by cases e),sw.pN (fun i x hx=>hst0.env i x hx) hg1 (fun r e=>by cases e),fun b o v k1 k2=>⟨k1,k2⟩⟩,hL1,hK1⟩).mono ?_
  ·-- a round
   rintro i X W ev hi ⟨⟨j,hj,hpj,β1,rfl,hinv,henv,hkp⟩,hl,hk⟩ hevs;have hyv:=run_yield (P:=P) (args:=ev) hl (by
    have h1:=AV.iP hevs;have h2:=hps i hi;rw[hrec];show ev.size=ps'.size;rw[aM,h2,<-hps']at h1;simpa using h1)
   rw[hrec]at hyv;refine⟨fn,_,ca,cb,hyv,roundIn_of_wpIn trivial ?_⟩;let C2:Ctx:={C with β:=β1,s:=S j,w:=W,k:=K,ro:=some (w.heap.size+1),dom:=0,nm:=false};have hinvC:Inv C β1 (S j) W:=hCw hinv;have hinv2:Inv C2 β1 (S j) W:=(hinvC.here (K:=K)).ro _ _;have hst2:St C2 β1 env (S j) {tmps:=a.tmps,defers:=[]} W:=⟨.nil,hinv2,hst0.len,henv⟩;have henc:AV.iK β1 (C2.ir β1 (S j)) W (((els.getD i []).map .d)) ev.toList:=by
    refine FI (β:=fun _=>.no) ?_;rw[hforb C2 β1 (S j) rfl];exact hevs
   have hst3:=St.YU (ps:=ps) hst2 henc;have hi':=hpj▸hi;have hrnd:=round j hj hi';rw[hpj]at hrnd;have hass:=hrnd C2 rfl (.inl hflat.1) ca hx β1 _ W hst3;have hfold:(ps.zip ev.toList).foldl (fun t (p,v)=>t.setIfInBounds p v) a.tmps=(ps'.zip ev).foldl (fun t (p,v)=>t.setIfInBounds p v) a.tmps:=by rw[<-hps',<-Array.foldl_toList,Array.toList_zip]
   show ca.wpIn C2.oy 0 P _ {tmps:=(ps'.zip ev).foldl (fun t (p,v)=>t.setIfInBounds p v) a.tmps,defers:=[]} W;rw[<-hfold];refine dH hass fun e a3 W3 he=>?_
   obtain⟨C3,hx3,β3,env3,s3,hst3',hq⟩:=he;cases e with
   |normal=>
    have hq:nj P K y (Et K env S (fun i'=>inv i'/\pos i'=pos j+1) Q) env3 s3:=by rw[hpj];exact hq
    have hI2:Inv C2 β3 s3 W3:=hx3.inv _ _ _ hst3'.inv;have keep3:∀{i:Nat}{o:Obj},W.heap[i]?=some o->Bo o->W3.heap[i]?=some o:=fun{i o} h h'=>
     (hI2.qq i (aV.1 h).1 fun id hb=>hinvC.isCells hb h h').trans h
    have hl3:=keep3 hl ⟨rfl,rfl⟩;have hk3:=keep3 hk ⟨rfl,rfl⟩;have hIw3:Inv Cw β3 s3 W3:=hinv.back (K:=K) (hI2.Y1 (C:={Cw with β:=β1,s:=S j,w:=W,k:=K})) (by show C.k<=K;omega);refine⟨_,run_beginRound hl3 (by rw[hrec]),?_⟩;have hg4:=eT W3 (w.heap.size+1) (.loop {rec .ready none with state:=.busy});have hr4:=own2 (A:=W3) (.loop {rec .ready none with state:=.busy}) (gi _) hl3 ⟨rfl,rfl⟩;generalize hW4:W3.putObj (w.heap.size+1) (.loop {rec .ready none with state:=.busy})=W4 at hg4⊢;have hl4:W4.heap[w.heap.size+1]?=some (.loop {rec .ready none with state:=.busy}):=by rw[<-hW4];exact World.putObj_heap_same (aV.1 hl3).1
    have hk4:W4.heap[w.heap.size]?=some (.deferred (some [])):=by rw[<-hW4];exact(dn gY).trans hk3
    have hIw4:Inv Cw β3 s3 W4:=hIw3.pN hg4 hr4;let C4:Ctx:={C with β:=β3,s:=s3,w:=W4,k:=K,ro:=some (w.heap.size+1),dom:=0,nm:=false};have hI4:Inv C4 β3 s3 W4:=((hCw hIw4).here (K:=K)).ro _ _;have hmk4:Marks C4 a3.defers:=by
     obtain⟨Ds,h1,h2,h3⟩:=hst3'.defers.now hst3'.inv;rw[h1];refine Marks.mk' hIw4 rfl rfl rfl rfl h2 fun D hD=>⟨cZ _,?_⟩
     have h4:=(h3 D hD).2.2;rw[<-hW4];refine(dn fun e=>?_).trans h4;rw[e,hl3]at h4;cases h4
    have hst4:St C4 β3 env3 s3 a3 W4:=⟨hmk4,hI4,hst3'.len,fun t x hx=>by
     have h1:=hst3'.env t x hx;rw[hx3.ir]at h1;exact AV.iY (fun b o v hc hn=>⟨eL hc hg4 (Cy fun r e=>(hr4 r e).2),hn⟩) (fun _=>.refl _) _ _ h1⟩
    have henv3:sw C2 β3 env s3 a W3:=sw.later (C:=C2) hfix hI2 henv;have henv4:sw C β3 env s3 a W4:=sw.pN (C:=C) henv3 hg4 fun r e=>(hr4 r e).2
    have hbody:=hq C4 rfl (.inl hflat.2) cb hy β3 _ W4 hst4;refine dH hbody fun e a5 W5 he=>?_
    obtain⟨C5,hx5,β5,env5,s5,hst5,hq5⟩:=he;have fin:∀(jump:Option Code)(β6:iE)(s6:ij),Inv C4 β6 s6 W5->∃W6,(Instr.endRound (w.heap.size+1) jump).run P W5=.ok (.bool jump.isNone) W6/\
     W6.heap[w.heap.size+1]?=some (.loop (rec (if jump.isNone then .ready else .done) jump))/\W6.heap[w.heap.size]?=some (.deferred (some []))/\Inv Cw β6 s6 W6/\sw C β6 env s6 a W6/\
     (∀b o,C.ir β6 s6 b o->b<W6.heap.size)/\∀b o v,W.cell? ⟨b,o,none⟩=some v->¬C.ir β1 (S j) b o->W6.cell? ⟨b,o,none⟩=some v/\¬C.ir β6 s6 b o:=fun jump β6 s6 hI6=>by
     have keep5:∀{i:Nat}{o:Obj},W4.heap[i]?=some o->Bo o->W5.heap[i]?=some o:=fun{i o} h h'=>
      (hI6.qq i (aV.1 h).1 fun id hb=>hIw4.isCells hb h h').trans h
     have hl5:=keep5 hl4 ⟨rfl,rfl⟩;have hk5:=keep5 hk4 ⟨rfl,rfl⟩;have hrun:=run_endRound (P:=P) jump hl5;have hg6:=eT W5 (w.heap.size+1) (.loop (rec (if jump.isNone then .ready else .done) jump));have hr6:=own2 (A:=W5) (.loop (rec (if jump.isNone then .ready else .done) jump)) (gi _) hl5 ⟨rfl,rfl⟩;have hIw5:Inv Cw β6 s6 W5:=hIw4.back (K:=K) (hI6.Y1 (C:={Cw with β:=β3,s:=s3,w:=W4,k:=K})) (by show C.k<=K;omega);refine⟨_,by rw[hrec]at hrun⊢;exact hrun,World.putObj_heap_same (aV.1 hl5).1,(dn gY).trans hk5,hIw5.pN hg6 hr6,?_,hbnd (hCw (hIw5.pN hg6 hr6)),?_⟩
     ·have h5:sw C4 β6 env s6 a W5:=sw.later (C:=C4) hfix hI6 henv4;exact sw.pN (C:=C) h5 hg6 fun r e=>(hr6 r e).2
     ·intro b o v h3 k1;have k2:=hI2.stays b o v h3 k1;have k3:W4.cell? ⟨b,o,none⟩=some v:=eL k2.1 hg4 (Cy fun r e=>(hr4 r e).2);have k4:=hI6.stays b o v k3 k2.2;exact⟨eL k4.1 hg6 (Cy fun r e=>(hr6 r e).2),k4.2⟩
    have hk5:C5.k=K:=hx5.k;cases e with
    |normal=>
     obtain⟨j',⟨hj',hpj'⟩,_,hwk⟩:=hq5;obtain⟨β6,hst6⟩:=hwk C5 β5 a5 W5 hk5 hst5;obtain⟨W6,hr,h1,h2,h3,h4,h6,h5⟩:=fin none β6 (S j') (hx5.inv _ _ _ hst6.inv);exact⟨_,_,hr,_,.inl ⟨rfl,⟨⟨j',hj',by rw[hpj',hpj],β6,rfl,h3,h4,fun b o v k1 k2=>h5 b o v (hkp b o v k1 k2).1 (hkp b o v k1 k2).2⟩,h1,h2⟩⟩,h6,h5⟩
    |ret=>
     obtain⟨s'',⟨_,hwk⟩,hQ⟩:=hq5;obtain⟨β6,hst6⟩:=hwk C5 β5 a5 W5 hk5 hst5;obtain⟨W6,hr,h1,h2,h3,h4,h6,h5⟩:=fin (some .ret) β6 s'' (hx5.inv _ _ _ hst6.inv);exact⟨_,_,hr,_,.inr ⟨rfl,.ret,s'',β6,.inl ⟨rfl,hQ⟩,h3,h4,h1,h2⟩,h6,h5⟩
    |exit id=>
     obtain⟨s'',⟨_,hwk⟩,hQ⟩:=hq5;obtain⟨β6,hst6⟩:=hwk C5 β5 a5 W5 hk5 hst5;obtain⟨W6,hr,h1,h2,h3,h4,h6,h5⟩:=fin (some (.exit id)) β6 s'' (hx5.inv _ _ _ hst6.inv);exact⟨_,_,hr,_,.inr ⟨rfl,.exit id,s'',β6,.inr ⟨id,rfl,hQ⟩,h3,h4,h1,h2⟩,h6,h5⟩
    |goto l=>exact hq5.elim
    |panic ch=>exact hq5.elim
    |outgrown=>exact hq5.elim
   |exit id=>exact hq.elim
   |goto l=>exact hq.elim
   |ret=>exact hq.elim
   |panic ch=>exact hq.elim
   |outgrown=>exact hq.elim
  ·-- behind the iterator
   have out:∀(β':iE)(s':ij)(W2:World)(st:LoopState)(pe:Option Code),st≠ .busy->Inv Cw β' s' W2->sw C β' env s' a W2->W2.heap[w.heap.size+1]?=some (.loop (rec st pe))->W2.heap[w.heap.size]?=some (.deferred (some []))->
    ∃W3,(Instr.endLoop (w.heap.size+1)).run P W2=.ok pe W3/\∃C',Ext C C'/\St C' β' env s' {a with defers:=[yV w.heap.size]++a.defers} W3:=fun β' s' W2 st pe hst hI hE hl hk=>by
    have hrun:=run_endLoop (P:=P) hl (by rw[hrec];exact hst);have hg3:=eT W2 (w.heap.size+1) (.loop {rec st pe with state:=.exhausted});have hr3:=own2 (A:=W2) (.loop {rec st pe with state:=.exhausted}) (gi _) hl ⟨rfl,rfl⟩;have hI3:Inv Cw β' s' (W2.putObj (w.heap.size+1) (.loop {rec st pe with state:=.exhausted})):=hI.pN hg3 hr3;have hE3:sw C β' env s' a (W2.putObj (w.heap.size+1) (.loop {rec st pe with state:=.exhausted})):=sw.pN (C:=C) hE hg3 fun r e=>(hr3 r e).2
    have hk3:(W2.putObj (w.heap.size+1) (.loop {rec st pe with state:=.exhausted})).heap[w.heap.size]?=some (.deferred (some [])):=(dn gY).trans hk;have hpe:(rec st pe).pending=pe:=by rw[hrec]
    generalize W2.putObj (w.heap.size+1) (.loop {rec st pe with state:=.exhausted})=W3 at hrun hI3 hE3 hk3;rw[hpe]at hrun;refine⟨W3,hrun,?_⟩;have hIC:Inv C β' s' W3:=hCw hI3;refine⟨{C with β:=β',s:=s',w:=W3,k:=C.k},⟨hIC.size,rfl,rfl,rfl,rfl,rfl,fun β s w h=>hIC.back h (aF _)⟩,?_,hIC.here,hst0.len,hE3⟩;obtain⟨Ds,h1,h2,h3⟩:=hst0.defers.now hIC;have hsz:=hst0.inv.size;show Marks _ (yV w.heap.size::a.defers);rw[h1,<-aP];refine Marks.mk' (C1:={C with β:=β',s:=s',w:=W3,k:=C.k}) hIC hnm rfl rfl rfl (cF.2 ⟨fun hm=>?_,h2⟩) fun D hD=>?_
    ·have:=(h3 _ hm).2.1;omega
    ·rcases bI.1 hD with rfl|hD
     ·exact⟨by show C.dom<=w.heap.size;omega,hk3⟩
     ·exact⟨(h3 D hD).1,(h3 D hD).2.2⟩
   rintro e W2 ⟨⟨v,rfl⟩,(⟨X,⟨j,hj,hpj,β',_,hI,hE,_⟩,hl,hk⟩|⟨m,X,_,jump,s'',β',hQ,hI,hE,hl,hk⟩)⟩
   ·obtain⟨W3,hr,C',hxt,hst'⟩:=out β' (S j) W2 .ready none (by simp) hI hE hl hk;exact⟨none,W3,hr,C',hxt,β',env,S j,hst',done j hj hpj⟩
   ·obtain⟨W3,hr,C',hxt,hst'⟩:=out β' s'' W2 .done (some jump) (by simp) hI hE hl hk;refine⟨some jump,W3,hr,?_⟩;rcases hQ with⟨rfl,hQ⟩|⟨id,rfl,hQ⟩
    ·exact wpIn_ret ⟨C',hxt,β',env,s'',hst',hQ⟩
    ·exact wpIn_exit ⟨C',hxt,β',env,s'',hst',hQ⟩
theorem I9{σ β:Type}{f:Nat×σ->Option ((Nat×σ)⊕β)}{s0:σ}{b:β}(hb:iw f (0,s0)=some b){g:Operand}{ps:List Nat}{x y:ie}{gf:Nat}{caps:List AV}{els:List (List D)}(K:Nat)
 (hK:k<=K) (hfix:AV.i_ (vD K) env=env) (hflat:x.flat=true/\y.flat=true) (hg:ev env g=.fn gf [] caps) (it:Iter P gf caps els) (hps:∀i,i<els.length->(els.getD i []).length=ps.length)
 (S:σ->ij) (hw:iL k env s env (S s0))
 (round:∀j p t,j<els.length->f (j,p)=some t->(∀b',t=.inr b'->b'=b)->
  nj P K x (xD (fun env1 s1=>nj P K y (Et K env S (fun p'=>t=.inl (j+1,p')) Q) env1 s1) fun _ _ _=>False) (oF env (ps.zip ((els.getD j []).map .d))) (S p))
 (done:∀p t,f (els.length,p)=some t->(∀b',t=.inr b'->b'=b)->Q .normal env (S p)):nj P k (.Es g ps x y) Q env s:=by
 obtain⟨n,hn⟩:=qC hb;refine XT (ι:=Nat×Nat×σ) K hK hfix hflat hg it hps (fun p=>S p.2.2) (fun p=>p.2.1) (fun p=>tK f p.1 p.2 b/\p.2.1<=els.length) (n,0,s0) ⟨hn,cZ _⟩ rfl hw ?_ ?_
 ·rintro⟨m,j,p⟩ ⟨hm,_⟩ hj;cases m with
  |zero=>exact hm.elim
  |succ m=>
   have cv:∀t:(Nat×σ)⊕β,(∀p',t=.inl (j+1,p')->tK f m (j+1,p') b)->∀e env' s',Et K env S (fun p'=>t=.inl (j+1,p')) Q e env' s'->
    Et K env (fun p:Nat×Nat×σ=>S p.2.2) (fun i'=>(tK f i'.1 i'.2 b/\i'.2.1<=els.length)/\i'.2.1=j+1) Q e env' s':=fun t ht e env' s' hq=>by
    cases e with
    |normal=>obtain⟨p',hp,hw⟩:=hq;exact⟨(m,j+1,p'),⟨⟨ht p' hp,hj⟩,rfl⟩,hw⟩
    |_=>exact hq
   rcases hm with hm|⟨p',hm,hr⟩
   ·refine(round j p _ hj hm fun b' hb'=>by cases hb';rfl).mono fun e env' s' hq=>?_
    cases e with
    |normal=>exact nj.mono hq (cv _ fun p' hp=>by cases hp)
    |_=>exact hq
   ·refine(round j p _ hj hm fun b' hb'=>by cases hb').mono fun e env' s' hq=>?_
    cases e with
    |normal=>exact nj.mono hq (cv _ fun p'' hp=>by cases hp;exact hr)
    |_=>exact hq
 ·rintro⟨m,j,p⟩ ⟨hm,_⟩ hj;simp only at hj;subst hj;cases m with
  |zero=>exact hm.elim
  |succ m=>
   rcases hm with hm|⟨p',hm,hr⟩
   ·exact done p _ hm fun b' hb'=>by cases hb';rfl
   ·exact done p _ hm fun b' hb'=>by cases hb'
def yD{α:Type}[Inhabited α](enc:α->D)(xs:List α):List (List D):=
 (List.range xs.length).map fun(j:Nat)=>[iD ((xs.length:Int)-1-(j:Int)),enc (xs.getD (xs.length-1-j) default)]
theorem wX{α:Type}[Inhabited α]{enc:α->D}{xs:List α}:(yD enc xs).length=xs.length:=by simp[yD]
theorem BB{α:Type}[Inhabited α]{enc:α->D}{xs:List α}{j:Nat}(h:j<xs.length):(yD enc xs).getD j []=[iD ((xs.length:Int)-1-(j:Int)),enc (xs.getD (xs.length-1-j) default)]:=by simp[yD,List.getD,h]
theorem Rw{α σ β:Type}[Inhabited α]{f:Nat×σ->Option ((Nat×σ)⊕β)}{s0:σ}{b:β}(hb:iw f (0,s0)=some b){g:Operand}{p1 p2:Nat}{x y:ie}{gf e:Nat}{enc:α->D}{xs:List α}
 (it:Iter P gf [.pv [ia e enc xs]] (yD enc xs)) (K:Nat) (S:σ->ij) (hw:iL k env s env (S s0))
 (round:∀j p t,j<xs.length->f (j,p)=some t->(∀b',t=.inr b'->b'=b)->
  rj P K x (xD (rj P K y (Et K env S (fun p'=>t=.inl (j+1,p')) Q)) fun _ _ _=>False) (oF env [(p1,.d (iD ((xs.length:Int)-1-(j:Int)))),(p2,.d (enc (xs.getD (xs.length-1-j) default)))]) (S p))
 (done:∀p t,f (xs.length,p)=some t->(∀b',t=.inr b'->b'=b)->Q .normal env (S p))
 (hg:ev env g=.fn gf [] [.pv [ia e enc xs]]:=by rfl) (hK:k<=K:=by omega) (hfix:AV.i_ (vD K) env=env:=by rfl) (hflat:(x.flat&&y.flat)=true:=by rfl):nj P k (.Es g [p1,p2] x y) Q env s:=by
 rw[bu]at hflat;refine I9 hb K hK hfix hflat hg it (fun i hi=>?_) S hw (fun j p t hj ht hbt=>?_) (fun p t ht hbt=>done p t (by rwa [wX]at ht) hbt)
 ·rw[wX]at hi;rw[BB hi];rfl
 ·rw[wX]at hj;rw[BB hj];refine(gZ (round j p t hj ht hbt)).mono fun e env' s' hq=>?_
  cases e with
  |normal=>exact gZ hq
  |_=>exact hq
theorem Vw{ι:Type}{K:Nat}{env env':List AV}{s':ij}{S:ι->ij}{next:ι->Prop}:Et K env S next Q .normal env' s'=∃i',next i'/\∃env'',iL K env' s' env'' (S i'):=(rfl)
end
attribute [go_sem] Vw
def wN(O:Own)(W:World):Ctx:={O:=O,β:=fun _=>.no,s:=[],w:=W,k:=0,nm:=true}
theorem wN.inv{O:Own}{W:World}(hO:∀b o,O b o->b<W.heap.size)(hm:GW O W):Inv (wN O W) (fun _=>.no) [] W:=
 ⟨aF _,rfl,hm.mono fun b o v h1 h2=>⟨h1,fun h3=>h3.elim h2 fun⟨_,h⟩=>h⟩,fun _ _ _ h _=>h,fun _ _ _=>rfl,fun _ _ h=>.inl h,fun id b h=>.inl ⟨id,h⟩,fun _ h=>absurd h (gj _),fun b o h=>⟨hO b o h,fun⟨_,h⟩=>h⟩,fun _=>rfl,fun _ _ _ h=>h.elim⟩
theorem wN.grown{O:Own}{β:iE}{s:ij}{W W':World}(h:Inv (wN O W) β s W'):W.grownBy W' none:=by
 have hio:=h.io;simp only[yo,dS]at hio;exact⟨hio.1,hio.2.2,hio.2.1,h.size,fun k hk _=>h.qq k hk fun id hb=>hb⟩
theorem St.again{O X:Own}{W W' W2:World}{C':Ctx}{β:iE}{env:List AV}{a:Act}(hx:Ext (wN O W) C')(h:St C' β env [] a W')(hid:AV.i_ (fun _=>none) env=env)
 (hX:∀b o,X b o->b<W2.heap.size) (hk:∀b o v,W'.cell? ⟨b,o,none⟩=some v->¬O b o->W2.cell? ⟨b,o,none⟩=some v/\¬X b o):St (wN X W2) (fun _=>.no) env [] a W2 where
 defers:=by rw[h.defers.1 hx.nm];exact .nil
 inv:=wN.inv hX (h.inv.GO.mono fun b o v hc hn=>hk b o v hc fun h2=>hn (.inl (by rw[hx.O];exact h2)))
 len:=h.len
 env:=fun i x hx'=>by
  have h1:=AV.uN (β':=fun _=>.no) (ρ:=fun _=>none) (fun i j h=>by cases h) x _ (h.env i x hx');have h2:x.kV (fun _=>none)=x:=by
   have h3:(AV.i_ (fun _=>none) env)[i]?=(env[i]?).map (AV.kV fun _=>none):=rN _ _ _;rw[hid,hx']at h3;simpa using h3.symm
  rw[h2]at h1;refine AV.iY (fun b o v hc hn=>?_) (fun _=>.refl _) _ _ h1;have h4:=hk b o v hc fun hO=>hn (.inl (by rw[hx.O];exact hO))
  refine⟨h4.1,?_⟩;rintro(h|⟨i,h⟩)
  ·exact h4.2 h
  ·exact h
theorem Ri{P:Program}{c:Code}{mc:ie}{env:List AV}{G:Exit->List AV->Prop}(hc:mW P c=some mc.erase)(hf:mc.flat=true)
 (h:nj P 0 mc (fun e env' s'=>∃env1,iL 0 env' s' env1 []/\AV.i_ (fun _=>none) env1=env1/\G e env1) env []) {a:Act} {W:World} {O:Own} (hst:St (wN O W) (fun _=>.no) env [] a W):
 c.wpIn Fence.wide 0 P (fun e a' W'=>W.grownBy W' none/\∃env1,St (wN O W') (fun _=>.no) env1 [] a' W'/\G e env1) a W:=
 dH (h (wN O W) rfl (.inl hf) c hc _ a W hst) fun e a' W' ⟨C',hx,β',env',s',h1,env1,hw,hid,hG⟩=>by
  obtain⟨β2,h2⟩:=hw C' β' a' W' hx.k h1;have hg:=wN.grown (hx.inv _ _ _ h1.inv);exact⟨hg,env1,h2.again hx hid (fun b o h=>ct (hst.inv.low b o h).1 hg.size) (fun b o v h h'=>⟨h,h'⟩),hG⟩
theorem zl{P:Program}{C:Ctx}{ops:Array Oper}{K0:List AV->ij->Prop}{Q:Exit->Act->World->Prop}{m:Nat}:∀(n i:Nat)(ms:List iJ)(env:List AV)(s:ij),i+(n+m)=ops.size->
 ((ops.toList.drop i).take n).mapM (pU P ops)=some (ms.map iJ.erase)->ue P C.k ms env s K0->∀(β:iE)(a:Act)(w:World),St C β env s a w->
 (∀β' env' s' a' w',St C β' env' s' a' w'->K0 env' s'->wpOpsIn C.oy 0 P ops Q (List.range' (i+n) m) a' w')->wpOpsIn C.oy 0 P ops Q (List.range' i (n+m)) a w
 |0,i,ms,env,s=>fun hi hm hk β a w hst hK=>by
  simp at hm;subst hm;rw[bU];exact hK β env s a w hst hk
 |n+1,i,ms,env,s=>fun hi hm hk β a w hst hK=>by
  have hlt:i<ops.toList.length:=by simp;omega
  rw[aA hlt,cH]at hm;simp only[cr,cp,au]at hm;obtain⟨m0,h1,ms0,h2,h3⟩:=hm;cases ms with
  |nil=>cases h3
  |cons m1 ms'=>
  simp only[aP,dB,aJ,bT]at h3;obtain⟨rfl,rfl⟩:=h3;rw[show n+1+m=(n+m)+1 by omega,dL];simp only[wpOpsIn];have ho:ops[i]?=some ops.toList[i]:=by simp at hlt;simp[hlt]
  rw[ho];simp only;refine uz (K:=fun env s=>ue P C.k ms' env s K0) h1 ?_ hst fun β' env' s' a' w' h4 h5=>zl n (i+1) ms' env' s' gY h2 h5 β' a' w' h4 fun β'' env'' s'' a'' w'' h6 h7=>?_
  ·simpa only[ue]using hk
  ·have:=hK β'' env'' s'' a'' w'' h6 h7;rwa [show i+(n+1)=i+1+n by omega]at this
structure Zt(P:Program)(els:List (List D))(l:Nat)(J Jx:Nat->Own->World->Prop):Prop where
 jn:∀i X A B,J i X A->A.grownBy B none->J i X B
 jx:∀i X A B,Jx i X A->A.grownBy B none->Jx i X B
 round:∀i X W1 (vs:Array Value),i<els.length->J i X W1->AV.iK (fun _=>.no) X W1 ((els.getD i []).map .d) vs.toList->YieldAt Fence.wide 0 P l vs W1 fun e W'=>∃X',
  ((e=.returned (.bool true)/\J (i+1) X' W')\/(e=.returned (.bool false)/\Jx (i+1) X' W'))/\(∀b o,X' b o->b<W'.heap.size)/\
  ∀b o v,W1.cell? ⟨b,o,none⟩=some v->¬X b o->W'.cell? ⟨b,o,none⟩=some v/\¬X' b o
def Live(els:List (List D))(J Jx:Nat->Own->World->Prop)(n:Nat)(X:Own)(W:World):Option (List (List D))->Prop
 |some r=>n<=els.length/\els.drop n=r/\J n X W
 |none=>∃m,m<els.length/\Jx (m+1) X W
theorem Live.grow{P:Program}{els:List (List D)}{l:Nat}{J Jx:Nat->Own->World->Prop}(h:Zt P els l J Jx){n:Nat}{X:Own}{W W':World}{r:Option (List (List D))}(hl:Live els J Jx n X W r)(hg:W.grownBy W' none):Live els J Jx n X W' r:=by
 cases r with
 |some r=>obtain⟨h1,h2,h3⟩:=hl;exact⟨h1,h2,h.jn _ _ _ _ h3 hg⟩
 |none=>obtain⟨m,h1,h2⟩:=hl;exact⟨m,h1,h.jx _ _ _ _ h2 hg⟩
abbrev tI:=Exit->List AV->Option (List (List D))->Prop
def Cr(P:Program)(l:Nat)(mc:ie)(Q:tI)(env:List AV)(r:Option (List (List D))):Prop:=
 ∀c,mW P c=some mc.erase->∀(els:List (List D))(J Jx:Nat->Own->World->Prop),Zt P els l J Jx->∀(n:Nat)(X:Own)(a:Act)(W:World),St (wN X W) (fun _=>.no) env [] a W->Live els J Jx n X W r->
  c.wpIn Fence.wide 0 P (fun e a' W'=>∃n' X' env' r',St (wN X' W') (fun _=>.no) env' [] a' W'/\Live els J Jx n' X' W' r'/\Q e env' r') a W
theorem jJ{P:Program}{l:Nat}{mc:ie}{Q:tI}{env:List AV}{r:Option (List (List D))}(hf:mc.flat=true)
 (h:nj P 0 mc (fun e env' s'=>∃env1,iL 0 env' s' env1 []/\AV.i_ (fun _=>none) env1=env1/\Q e env1 r) env []):Cr P l mc Q env r:=
 fun c hc els J Jx hJ n X a W hst hl=>dH (Ri hc hf h hst) fun _ _ _ ⟨hg,env1,h1,h2⟩=>⟨n,X,env1,r,h1,hl.grow hJ hg,h2⟩
def XJ(P:Program)(l:Nat)(y:ie)(Q:tI):tI
 |.normal,env,r=>Cr P l y Q env r
 |e,env,r=>Q e env r
theorem kZ{P:Program}{l:Nat}{x y:ie}{Q:tI}{env:List AV}{r:Option (List (List D))}(h:Cr P l x (XJ P l y Q) env r):Cr P l (.seq x y) Q env r:=
 fun c hc els J Jx hJ n X a W hst hl=>by
  obtain⟨c1,c2,rfl,h1,h2⟩:=Hf (x:=x.erase) (y:=y.erase) hc;refine wpIn_seq (dH (h c1 h1 els J Jx hJ n X a W hst hl) fun e a' W' ⟨n',X',env',r',k1,k2,k3⟩=>?_);cases e with
  |normal=>exact k3 c2 h2 els J Jx hJ n' X' a' W' k1 k2
  |exit id=>exact⟨n',X',env',r',k1,k2,k3⟩
  |goto l=>exact⟨n',X',env',r',k1,k2,k3⟩
  |ret=>exact⟨n',X',env',r',k1,k2,k3⟩
  |panic ch=>exact⟨n',X',env',r',k1,k2,k3⟩
  |outgrown=>exact⟨n',X',env',r',k1,k2,k3⟩
def Oj(id:Nat)(Q:tI):tI
 |.exit id',env,r=>if id'=id then Q .normal env r else Q (.exit id') env r
 |e,env,r=>Q e env r
theorem rY{P:Program}{l id:Nat}{x:ie}{Q:tI}{env:List AV}{r:Option (List (List D))}(h:Cr P l x (Oj id Q) env r):Cr P l (.block id x) Q env r:=
 fun c hc els J Jx hJ n X a W hst hl=>by
  obtain⟨c1,rfl,h1⟩:=DI (x:=x.erase) hc;refine wpIn_block (dH (h c1 h1 els J Jx hJ n X a W hst hl) fun e a' W' ⟨n',X',env',r',k1,k2,k3⟩=>?_);cases e with
  |exit id'=>
   simp only[Oj]at k3;simp only[Exit.inBlock];split<;>rename_i hid<;>simp only[hid,aC,aE]at k3<;>exact⟨n',X',env',r',k1,k2,k3⟩
  |normal=>exact⟨n',X',env',r',k1,k2,k3⟩
  |goto l=>exact⟨n',X',env',r',k1,k2,k3⟩
  |ret=>exact⟨n',X',env',r',k1,k2,k3⟩
  |panic ch=>exact⟨n',X',env',r',k1,k2,k3⟩
  |outgrown=>exact⟨n',X',env',r',k1,k2,k3⟩
theorem IM{P:Program}{l:Nat}{x:ie}{Q:tI}{env env1:List AV}{r:Option (List (List D))}(hw:iL 0 env [] env1 [])(hid:AV.i_ (fun _=>none) env1=env1)(h:Cr P l x Q env1 r):Cr P l x Q env r:=
 fun c hc els J Jx hJ n X a W hst hl=>by
  obtain⟨β',hst'⟩:=hw (wN X W) _ a W rfl hst;exact h c hc els J Jx hJ n X a W (hst'.again (Ext.refl _) hid (fun b o h=>(hst.inv.low b o h).1) fun b o v h h'=>⟨h,h'⟩) hl
def Kg{ι:Type}(E:ι->List AV)(R:ι->Option (List (List D)))(inv:ι->Prop)(Q:tI):tI
 |.normal,env,r=>∃i',inv i'/\iL 0 env [] (E i') []/\r=R i'
 |e,env,r=>Q e env r
theorem BM{P:Program}{l:Nat}{x:ie}{Q:tI}{env:List AV}{ι:Type}(E:ι->List AV)(R:ι->Option (List (List D)))(inv:ι->Prop)(μ:ι->Nat)(i0:ι)(h0:inv i0)(hw:iL 0 env [] (E i0) [])(hid:∀i,AV.i_ (fun _=>none) (E i)=E i)
 (round:∀i,inv i->Cr P l x (Kg E R (fun i'=>inv i'/\μ i'<μ i) Q) (E i) (R i)):Cr P l (.loop x) Q env (R i0):=by
 refine IM hw (hid i0) fun c hc els J Jx hJ n X a W hst hl=>?_
 obtain⟨c1,rfl,h1⟩:=EY (x:=x.erase) hc;intro b kk cs hro hb hr;have key:∀m i n X a W,μ i=m->inv i->St (wN X W) (fun _=>.no) (E i) [] a W->Live els J Jx n X W (R i)->
  ∃e a' W',(∃n' X' env' r',St (wN X' W') (fun _=>.no) env' [] a' W'/\Live els J Jx n' X' W' r'/\Q e env' r')/\ArrivesIn (Machine.fenced P Fence.wide) P (lone (b.atR a (.code c1:: .inLoop c1::kk)) cs W) b kk cs e a' W':=by
  intro m;induction m using Nat.strongRecOn with
  |_ m ih=>
   intro i n X a W hn hi hst hl;obtain⟨e,a₁,w₁,hq,harr⟩:=round i hi c1 h1 els J Jx hJ n X a W hst hl b (.inLoop c1::kk) cs hro hb hr;obtain⟨n',X',env',r',k1,k2,hq⟩:=hq;cases e with
   |normal=>
    obtain⟨i',⟨hi',hlt⟩,hwk,rfl⟩:=hq;obtain⟨β2,hst2⟩:=hwk (wN X' w₁) _ a₁ w₁ rfl k1;have hst3:=hst2.again (Ext.refl _) (hid i') (fun b o h=>(k1.inv.low b o h).1) fun b o v h h'=>⟨h,h'⟩
    obtain⟨e₂,a₂,w₂,hq₂,harr₂⟩:=ih (μ i') (hn▸hlt) i' n' X' a₁ w₁ rfl hi' hst3 k2;exact⟨e₂,a₂,w₂,hq₂,.of_steps (StepsIn.trans harr (.one (fe hb hr rfl) stepR_inLoop)) harr₂⟩
   |exit id=>exact⟨_,a₁,w₁,⟨n',X',env',r',k1,k2,hq⟩,.pass (x:=.inLoop c1) rfl (fun _ _=>.inl (by simp)) harr⟩
   |goto l=>exact⟨_,a₁,w₁,⟨n',X',env',r',k1,k2,hq⟩,.pass (x:=.inLoop c1) rfl (fun _ _=>.inl (by simp)) harr⟩
   |ret=>exact⟨_,a₁,w₁,⟨n',X',env',r',k1,k2,hq⟩,.pass (x:=.inLoop c1) rfl (fun _ _=>.inl (by simp)) harr⟩
   |panic ch=>exact⟨_,a₁,w₁,⟨n',X',env',r',k1,k2,hq⟩,.pass (x:=.inLoop c1) rfl (fun _ _=>.inl (by simp)) harr⟩
   |outgrown=>exact⟨_,a₁,w₁,⟨n',X',env',r',k1,k2,hq⟩,.pass (x:=.inLoop c1) rfl (fun _ _=>.inl (by simp)) harr⟩
 obtain⟨e,a',W',hq,harr⟩:=key _ i0 n X a W rfl h0 hst hl;exact⟨e,a',W',hq,.of_steps (.one (fe hb hr rfl) stepR_loop) harr⟩
theorem Fb{P:Program}{o:Oper}{c:Call}{ρ:Operand->Value}{w:World}{l:Nat}(hop:o.op=.call c){g:Operand}(hc:c.callee=.value g)(hg:ρ g=.func (.yield l) #[] #[]):
 (execOp ρ o).run P w=(Instr.yield l (c.args.map ρ)).run P w:=by
 simp[execOp,hop,resolve,hc,hg,Deferred.ofValue,invoke]
theorem Dh{P:Program}{o:Oper}{g:Operand}{xs:List Operand}(h:ku P o=some (.ng g xs)):∃c,o.op=.call c/\c.callee=.value g/\c.args.toList=xs:=by
 unfold ku at h
 repeat' split at h
 all_goals first
  |(cases h;done)
  |(simp[au,az]at h;done)
  |(simp only[aJ,sJ.ng.injEq]at h;obtain⟨rfl,rfl⟩:=h;exact⟨_,by assumption,by assumption,rfl⟩)
theorem xl{α β:Type}{f:α->Option β}:∀{xs:List α}{ys:List β}(n:Nat),xs.mapM f=some ys->(xs.take n).mapM f=some (ys.take n)/\(xs.drop n).mapM f=some (ys.drop n)
 |xs,ys,0,h=>by simpa using h
 |[],ys,n+1,h=>by simp at h;subst h;simp
 |x::xs,ys,n+1,h=>by
  simp only[cr,cp,dB,au]at h;obtain⟨y,h1,r,h2,h3⟩:=h;cases h3;obtain⟨k1,k2⟩:=xl n h2;refine⟨?_,by simpa using k2⟩;simp only[cH,cr,cp,dB,h1,k1,aa]
theorem wN.ir{X:Own}{W:World}:(wN X W).ir (fun _=>.no) []=X:=by funext b o;exact propext ⟨fun h=>h.elim id fun⟨_,h⟩=>h.elim,fun h=>.inl h⟩
theorem Kc{P:Program}{l:Nat}{pre post:List iJ}{d:Nat}{g:Operand}{args:List Operand}{Q:tI}{env:List AV}{x:List D}{r:List (List D)}
 (hpre:ue P 0 pre env [] (fun env' s'=>∃env1,iL 0 env' s' env1 []/\AV.i_ (fun _=>none) env1=env1/\ev env1 g=.d (.lit (.func (.yield l) #[] #[]))/\args.map (ev env1)=x.map .d/\
  ∀b,ue P 0 post (env1.set d (.d (bD b))) [] (fun env' s'=>∃env2,iL 0 env' s' env2 []/\AV.i_ (fun _=>none) env2=env2/\Q .normal env2 (if b then some r else none)))):
 Cr P l (.h_ (pre++⟨some d,.ng g args,none⟩::post)) Q env (some (x::r)):=fun c hc els J Jx hJ n X a W hst hl=>by
 obtain⟨rid,ops,rfl,mops⟩:=A0 (ms:=(pre++⟨some d,.ng g args,none⟩::post).map iJ.erase) hc;have hlen:ops.size=pre.length+(1+post.length):=by
  have:=(vF mops).1;simp at this;omega
 obtain⟨t1,t2⟩:=xl pre.length mops;have e1:(List.map iJ.erase (pre++⟨some d,.ng g args,none⟩::post)).take pre.length=pre.map iJ.erase:=by rw[aR];exact ei (by simp)
 have e2:(List.map iJ.erase (pre++⟨some d,.ng g args,none⟩::post)).drop pre.length=(⟨some d,.ng g args,none⟩::post).map iJ.erase:=by rw[aR];exact List.drop_left' (by simp)
 rw[e1]at t1;rw[e2]at t2;obtain⟨t3,t4⟩:=xl 1 t2;rw[List.drop_drop]at t4;simp only[aP,cH,dJ,fF,bF]at t3 t4;have hlt:pre.length<ops.toList.length:=by simp;omega
 rw[aA hlt]at t3;simp only[cH,dJ,cr,List.mapM_nil,cp,dB,au,aJ]at t3;obtain⟨m0,q6,_,rfl,q6'⟩:=t3;simp only[bT,and_true]at q6';subst q6';have g6:ops[pre.length]?=some ops.toList[pre.length]:=by simp at hlt;simp[hlt]
 generalize ops.toList[pre.length]=o6 at q6 g6;obtain⟨p6,d6,gd6⟩:=uo q6;have hmo6:ku P o6=some (.ng g args):=by
  cases hq:ku P o6 with
  |some y=>rw[hq]at p6;rw[show y=sJ.ng g args from p6.symm]
  |none=>rw[hq]at p6;cases p6
 obtain⟨cl,hop6,hcal,hargs6⟩:=Dh hmo6;have hgd6:o6.guard=none:=by
  cases hq:o6.guard with
  |none=>rfl
  |some x=>rw[hq]at gd6;cases gd6
 have hdst6:o6.dst=some d:=d6.symm;obtain⟨hn,hdr,hJn⟩:=hl;have hnl:n<els.length:=by
  rcases cI n els.length with h|h
  ·exact h
  ·rw[bG h]at hdr;cases hdr
 have hx:els.getD n []=x/\els.drop (n+1)=r:=by
  rw[aA hnl]at hdr;simp only[bT]at hdr;exact⟨by rw[ay,aB hnl];exact hdr.1,hdr.2⟩
 refine wpIn_region ?_;rw[hlen,dG];refine zl (C:=wN X W) (m:=1+post.length) pre.length 0 pre _ [] (by rw[hlen];omega) (by rw[bF];exact t1) hpre _ a W hst fun β' env' s' a4 W4 hst4 hK0=>?_
 obtain⟨env4,hw4,hid4,hyv4,hargs4,hpost⟩:=hK0;obtain⟨β4,hst4'⟩:=hw4 (wN X W) β' a4 W4 rfl hst4;have hg4:W.grownBy W4 none:=wN.grown hst4.inv;have hst5:=hst4'.again (W2:=W4) (X:=X) (Ext.refl _) hid4 (fun b o h=>ct (hst.inv.low b o h).1 hg4.size) (fun b o v h h'=>⟨h,h'⟩);have hJ4:=hJ.jn _ _ _ _ hJn hg4;rw[bU,show 1+post.length=post.length+1 by omega,dL];rw[wpOpsIn];rw[g6];simp only;rw[ah (wB hgd6)];refine⟨fun _ _=>trivial,?_⟩;have hnd:∀c,o6.op≠ .defer c:=by rw[hop6];simp
 have hyv:a4.eval g=.func (.yield l) #[] #[]:=by
  have:=hst5.ev g;rw[hyv4]at this;exact qf this
 rw[er _ _ _ hnd,Fb (l:=l) hop6 hcal hyv];have hoks:AV.iK (fun _=>.no) X W4 ((els.getD n []).map .d) (cl.args.map a4.eval).toList:=by
  have:=Ai hst5 args;rw[hargs4,wN.ir]at this;rw[hx.1,dy,hargs6];exact this
 obtain⟨fn',tmps',dz',bd',hy,hR⟩:=hJ.round n X W4 _ hnl hJ4 hoks;rw[hy,Oper.uponIn_round];refine⟨(fun h=>by cases h),RoundIn.mono hR ?_⟩;rintro e5 W5 ⟨X5,hres5,hX5,hk5⟩;obtain⟨bb,rfl,hJ5⟩:∃bb,e5=.returned (.bool bb)/\Live els J Jx (n+1) X5 W5 (if bb then some r else none):=by
  rcases hres5 with⟨h1,h2⟩|⟨h1,h2⟩
  ·exact⟨true,h1,hnl,hx.2,h2⟩
  ·exact⟨false,h1,n,hnl,h2⟩
 show wpOpsIn Fence.wide 0 P ops _ (List.range' (pre.length+1) post.length) (a4.put o6.dst (.bool bb)) W5;rw[hdst6];have hst6:St (wN X5 W5) (fun _=>.no) (env4.set d (.d (bD bb))) [] (a4.put (some d) (.bool bb)) W5:=
  (hst5.again (Ext.refl _) hid4 hX5 hk5).put (x:=.d (bD bb)) (v:=.bool bb) (by simp[AV.ok,bD,D.ok,one]) (some d)
 have:=zl (C:=wN X5 W5) (Q:=fun e a' W'=>∃n' X' env' r',St (wN X' W') (fun _=>.no) env' [] a' W'/\Live els J Jx n' X' W' r'/\Q e env' r') (m:=0) post.length (pre.length+1) post _ [] (by rw[hlen];omega) (by rw[bL (by simp;omega)];exact t4) (hpost bb) _ _ W5 hst6 fun β' env' s' a7 W7 hst7 hK0=>?_
 ·rw[dD]at this;exact this
 obtain⟨env7,hw7,hid7,hQ7⟩:=hK0;obtain⟨β7,hst7'⟩:=hw7 (wN X5 W5) β' a7 W7 rfl hst7;have hg7:W5.grownBy W7 none:=wN.grown hst7.inv;have hst8:=hst7'.again (W2:=W7) (X:=X5) (Ext.refl _) hid7 (fun b o h=>ct (hX5 b o h) hg7.size) (fun b o v h h'=>⟨h,h'⟩);exact⟨n+1,X5,env7,_,hst8,hJ5.grow hJ hg7,hQ7⟩
theorem Fy{P:Program}{gf nt:Nat}{caps:List AV}{els:List (List D)}{mc:ie}(h:kH P gf mc nt [])(hen:enters P gf=true)(hcaps:AV.i_ (fun _=>none) caps=caps)
 (hmc:∀l,Cr P l mc (fun e env' r=>(e=.normal\/e=.ret)/\(r=some []\/r=none)) ([.d (.lit (.func (.yield l) #[] #[]))]++caps++List.replicate (nt-(1+caps.length)) .ig) (some els)):Iter P gf caps els:=by
 refine⟨hcaps,yK hen,fun O W lb hlb hG hO l J Jx hJ hJx hround hJ0=>?_⟩;obtain⟨fn,hf,hb,hnt,hres⟩:=h.fn;rw[au]at hb;obtain⟨c,hbody,hm⟩:=hb;have hIt:Zt P els l J Jx:=⟨fun i X A B h hg=>hJ i X A B none h hg fun r e=>(by cases e),fun i X A B h hg=>hJx i X A B none h hg fun r e=>(by cases e),hround⟩;have hlen:=AV.iP hlb;refine callsIn_of_wp hf hbody trivial ?_;have hst0:St (wN O W) (fun _=>.no) ([.d (.lit (.func (.yield l) #[] #[]))]++caps++List.replicate (nt-(1+caps.length)) .ig) []
  {tmps:=(#[.func (.yield l) #[] #[]]++lb)++Array.replicate (fn.ntmps-(#[.func (.yield l) #[] #[]]++lb:Array Value).size) undef,defers:=[]} W:=by
  rw[hnt];have hsz:lb.size=caps.length:=by simpa using hlen
  refine⟨.nil,wN.inv hO hG,by simp[hsz];omega,fun i x hx=>?_⟩;rw[wN.ir];rcases i with _|i
  ·simp at hx;subst hx;simp[AV.ok,D.ok,one,fA]
  ·rw[eK]at hx;split at hx
   ·rename_i hi;simp at hi hx;have hi2:i<lb.size:=by omega
    have h1:((#[Value.func (.yield l) #[] #[]]++lb)++Array.replicate (nt-(#[Value.func (.yield l) #[] #[]]++lb:Array Value).size) undef).getD (i+1) undef=lb[i]:=by
     rw[cc,Array.getElem?_append_left (by simp;omega),Array.getElem?_append_right (by simp)];simp[hi2]
    show AV.ok _ _ _ _ (Array.getD _ (i+1) undef);rw[h1];exact(AV.jD.1 hlb).2 i x _ hx (by simp[hi2])
   ·have:x=.ig:=by
     rw[dj]at hx;split at hx
     ·cases hx;rfl
     ·cases hx
    subst this;simp[AV.ok]
 refine dH (hmc l c hm els J Jx hIt 0 O _ W hst0 ⟨cZ _,rfl,hJ0⟩) fun e a' W' ⟨n',X',env',r',k1,k2,k3,k4⟩=>?_
 have hR:(∃X,J els.length X W')\/∃m X,m<els.length/\Jx (m+1) X W':=by
  rcases k4 with rfl|rfl
  ·obtain⟨h1,h2,h3⟩:=k2;have:n'=els.length:=by
    have:=bX List.length h2;simp at this;omega
   subst this;exact .inl ⟨X',h3⟩
  ·obtain⟨m,h1,h2⟩:=k2;exact .inr ⟨m,X',h1,h2⟩
 have fin:a'.defers=[]/\∃v,(results fn a'.tmps).run P W'=.ok v W'/\((∃v',Ending.returned v=Ending.returned v')/\((∃X,J els.length X W')\/∃m X,m<els.length/\Jx (m+1) X W')):=by
  refine⟨k1.defers.1 rfl,.tuple #[],?_,⟨_,rfl⟩,hR⟩;have hr0:fn.results.toList=[]:=by
   cases hq:fn.results.toList with
   |nil=>rfl
   |cons x r=>rw[hq]at hres;simp[cr,au]at hres
  rw[Aq,ee,hr0];rfl
 rcases k3 with rfl|rfl
 ·exact fin
 ·exact fin
theorem Dy{P:Program}{l:Nat}{mc:ie}{Q:tI}{env:List AV}{r:Option (List (List D))}{p:Prop}(hp:∀X a W,St (wN X W) (fun _=>.no) env [] a W->p)(h:p->Cr P l mc Q env r):Cr P l mc Q env r:=
 fun c hc els J Jx hJ n X a W hst hl=>h (hp X a W hst) c hc els J Jx hJ n X a W hst hl
theorem DT{X:Own}{a:Act}{W:World}{env:List AV}{i e:Nat}{ds:List D}{nl:Option Bool}{cs1 cs2:List D}(hst:St (wN X W) (fun _=>.no) env [] a W)(h:env[i]?=some (.pv (cs1++ .sl e nl ds::cs2))):ds.length<2^63:=by
 have:=hst.env i _ h;simp only[AV.ok]at this;obtain⟨b,o,vs,_,_,h2⟩:=this;have h3:=(D.jD.1 h2).2 cs1.length (.sl e nl ds) (vs.getD cs1.length undef) (by simp) (by
  have hl:=D.iP h2;have:cs1.length<vs.length:=by rw[hl];simp
  simp[ay,aB this])
 simp only[D.ok]at h3;obtain⟨_,a2,cap,_,h4,_⟩:=h3;exact Nat.lt_of_le_of_lt h4.1 h4.2
def SP(e:Nat):List iJ:=[⟨some 11,.mv (.tmp 0),none⟩,⟨some 12,.mv (.tmp 3),none⟩,⟨some 13,.load 1 false (.tmp 1),none⟩,⟨some 14,.mv (.tmp 3),none⟩,⟨some 15,.uE e (.tmp 13) (.tmp 14),none⟩,⟨some 16,.load e true (.tmp 15),none⟩]
def UA(e:Nat):ie:=
 .seq (.h_ [⟨some 4,.load 1 false (.tmp 1),none⟩,⟨some 5,.len (.tmp 4),none⟩,⟨some 6,.bin .sub (.tmp 5) (.const (.int .i64 1)),none⟩,⟨some 3,.mv (.tmp 6),none⟩])
  (.block 0 (.loop (.seq (.seq (.h_ [⟨some 7,.mv (.tmp 3),none⟩,⟨some 8,.bin .geq (.tmp 7) (.const (.int .i64 0)),none⟩]) (.cond (.tmp 8) .skip (.exit 0)))
   (.seq (.block 1 (.seq (.h_ (SP e++[⟨some 17,.ng (.tmp 11) [.tmp 12,.tmp 16],none⟩,⟨some 18,.un .not (.tmp 17),none⟩])) (.cond (.tmp 18) .ret .skip)))
    (.h_ [⟨some 9,.mv (.tmp 3),none⟩,⟨some 10,.bin .sub (.tmp 9) (.const (.int .i64 1)),none⟩,⟨some 3,.mv (.tmp 10),none⟩])))))
section
attribute [local irreducible] rj vP uV mz lN nj kj Au Bm zm Bl yp tF lM nc AJ iS kN Cr
theorem LM{P:Program}{gf e:Nat}{α:Type}[Inhabited α](enc:α->D)(hag:∀x,∃cs,enc x=.agg cs/\cs.length=e)(h:kH P gf (UA e) 19 [])(hen:enters P gf=true)(xs:List α):
 Iter P gf [.pv [ia e enc xs]] (yD enc xs):=by
 refine Fy h hen rfl fun l=>Dy (p:=xs.length<2^63) (fun X a W hst=>by have:=DT (i:=1) (cs1:=[]) (cs2:=[]) (ds:=xs.map enc) (e:=e) (nl:=none) hst rfl;simpa using this) fun hlen=>?_
 delta UA;refine kZ (jJ rfl (gZ ?_));show rj _ _ _ _ ([.d (.lit (.func (.yield l) #[] #[])),.pv [ia e enc xs]]++List.replicate 17 .ig) [];refine iN ?_;let E:Nat->List AV:=fun j=>[.d (.lit (.func (.yield l) #[] #[])),.pv [ia e enc xs],.ig,.d (iD ((xs.length:Int)-1-(j:Nat)))]++List.replicate 15 .ig
 have hw0:IntKind.i64.wrap ((xs.length:Int)-1)=(xs.length:Int)-1-(0:Nat):=by rw[wrap_i64 gY gY];simp
 rw[hw0];refine⟨E 0,wk,rfl,rY ?_⟩;have hdrop:∀j,j<xs.length->(yD enc xs).drop j=[iD ((xs.length:Int)-1-(j:Nat)),enc (xs.getD (xs.length-1-j) default)]::(yD enc xs).drop (j+1):=fun j hj=>by
  have hj':j<(yD enc xs).length:=by rw[wX];exact hj
  rw[aA hj'];congr 1;have:=BB (enc:=enc) hj;rw[ay,aB hj']at this;exact this
 refine BM E (fun j=>some ((yD enc xs).drop j)) (fun j=>j<=xs.length) (fun j=>xs.length-j) 0 (cZ _) .refl (fun _=>rfl) fun j hj=>?_
 refine kZ (jJ rfl (gZ ?_));show rj _ _ _ _ ([.d (.lit (.func (.yield l) #[] #[])),.pv [ia e enc xs],.ig,.d (iD ((xs.length:Int)-1-(j:Nat)))]++List.replicate 15 .ig) [];by_cases hz:(0:Int)<=(xs.length:Int)-1-(j:Nat)
 ·have hc:decide ((0:Int)<=(xs.length:Int)-1-(j:Nat))=true:=by simpa using hz
  refine rz hc ?_;refine⟨E j,wk,rfl,?_⟩;have hjl:j<xs.length:=by omega
  have hzn:((xs.length:Int)-1-(j:Nat)).toNat=xs.length-1-j:=by omega
  rw[hdrop j hjl];refine kZ (rY (kZ (Kc (oA ?_))));delta SP;show vP _ _ _ _ ([.d (.lit (.func (.yield l) #[] #[])),.pv [ia e enc xs],.ig,.d (iD ((xs.length:Int)-1-(j:Nat)))]++List.replicate 15 .ig) [];refine iN ?_;repeat(refine yW gY ?_;refine iN ?_)
  rw[hzn];obtain⟨cs,hcs,hcl⟩:=hag (xs.getD (xs.length-1-j) default);have hd:iq (enc (xs.getD (xs.length-1-j) default))=cs:=by rw[hcs];rfl
  rw[hd];refine⟨gY,?_⟩;rw[bL gY,<-hcs];refine⟨[.d (.lit (.func (.yield l) #[] #[])),.pv [ia e enc xs],.ig,.d (iD ((xs.length:Int)-1-(j:Nat))),.ig,.ig,.ig,.ig,.ig,.ig,.ig,.d (.lit (.func (.yield l) #[] #[])),.d (iD ((xs.length:Int)-1-(j:Nat))),.ig,.ig,.ig,.d (enc (xs.getD (xs.length-1-j) default)),.ig,.ig],wk,rfl,rfl,rfl,fun b=>oA ?_⟩;refine iN ?_;refine⟨[.d (.lit (.func (.yield l) #[] #[])),.pv [ia e enc xs],.ig,.d (iD ((xs.length:Int)-1-(j:Nat)))]++List.replicate 14 .ig++[.d (bD (!b))],wk,rfl,jJ rfl (gZ ?_)⟩;show rj _ _ _ _ ([.d (.lit (.func (.yield l) #[] #[])),.pv [ia e enc xs],.ig,.d (iD ((xs.length:Int)-1-(j:Nat)))]++List.replicate 14 .ig++[.d (bD (!b))]) [];cases b with
  |false=>refine iN ?_;exact⟨E j,wk,rfl,.inr rfl,.inr rfl⟩
  |true=>
   refine iN ?_;refine⟨E j,wk,rfl,jJ rfl (gZ ?_)⟩;show rj _ _ _ _ ([.d (.lit (.func (.yield l) #[] #[])),.pv [ia e enc xs],.ig,.d (iD ((xs.length:Int)-1-(j:Nat)))]++List.replicate 15 .ig) [];refine iN ?_;have hw1:IntKind.i64.wrap ((xs.length:Int)-1-(j:Nat)-1)=(xs.length:Int)-1-((j+1:Nat):Int):=by rw[wrap_i64 gY gY];omega
   rw[hw1];exact⟨E (j+1),wk,rfl,j+1,⟨hjl,gY⟩,.refl,rfl⟩
 ·have hc:decide ((0:Int)<=(xs.length:Int)-1-(j:Nat))=false:=by simpa using hz
  refine rz hc ?_;have hjl:j=xs.length:=by omega
  subst hjl;exact⟨E xs.length,wk,rfl,.inl rfl,.inl (by rw[bG (by rw[wX];exact aF _)])⟩
end
theorem iC.YV{P:Program}{f:Nat}{args:List AV}{g id t:Nat}{d:D}(h:iC P f args [] 0 fun x s'=>x=.fn g [] [.ptr id 0]/\s'=[(id,.obj t [.d d])]):
 iC P f args [] 0 fun x s'=>x=.fn g [] [.pv [d]]/\s'=[]:=fun C vs hs hk hinv hargs=>by
 refine(h C vs hs hk hinv hargs).mono fun e w' ⟨v,x,β',s',he,hi,hx,hxe,hse⟩=>?_
 subst hxe hse;have ho:=hi.obs id;simp only[sat,aC]at ho;obtain⟨b,us,hb,hh,hone,pre,rest,hus,hpre⟩:=ho;simp only[AV.iK]at hpre;obtain⟨u,r,rfl,hu,rfl⟩:=hpre;simp only[AV.ok]at hu;simp only[AV.ok,AV.iK]at hx;obtain⟨fs,cs,rfl,hfs,pv,r2,hcs,⟨b2,hb2,hpv⟩,rfl⟩:=hx;rw[hb]at hb2;cases hb2;have hn:∀b o,¬own (iy β' id .no) [] b o:=fun b o ⟨_,h⟩=>h
 have hsat:∀j,sat (jz id [(id,Ob.obj t [.d d])]) j=sat ([]:ij) j:=fun j=>by
  rw[qb];by_cases hj:j=id
  ·simp[hj,sat]
  ·simp[hj,sat,Ob.kill]
 have hI:Inv C (iy β' id .no) [] w':=by
  have h1:=hi.kill id (by rw[hk];exact cZ _);exact⟨h1.size,h1.io,h1.gl,h1.keep,h1.qq,fun b o h=>(hn b o h).elim,fun i b h=>h.elim,h1.pl,h1.low,fun i=>by
   have h2:=h1.obs i;rw[hsat i]at h2;simp only[sat]at h2⊢;exact h2,fun i j b h=>h.elim⟩
 refine⟨_,_,_,_,he,hI,?_,rfl,rfl⟩;have hc:w'.cell? ⟨b,0,none⟩=some u:=by
  simp only[World.cell?,hh,aa];have:us.toList[0]?=some u:=by rw[hus];rfl
  simpa using this
 have hnO:¬C.O b 0:=fun hO=>by
  have h1:=hi.low b 0 hO;have hown:own β' [(id,.obj t [.d d])] b 0:=⟨id,by simp only[sat,aC];exact hb⟩;rcases hi.pO b 0 hown with h2|h2
  ·exact h1.2 h2
  ·omega
 simp only[AV.ok,AV.iK,D.iK];have h1u:one u=true:=hone u (by rw[hus];simp);have hdu:D.ok (C.ir (iy β' id .no) []) w' d u:=D.iY (fun b o v hc hn'=>⟨hc,fun h=>hn' (h.imp (fun h=>h) fun h=>(hn b o h).elim)⟩) _ _ hu;refine⟨fs,cs,rfl,hfs,pv,[],hcs,⟨b,0,[u],hpv,fun j v hj=>?_,u,[],rfl,h1u,hdu,rfl⟩,rfl⟩;cases j with
 |zero=>simp at hj;subst hj;exact⟨hc,fun h=>h.elim hnO (hn _ _),h1u⟩
 |succ j=>simp at hj
section
attribute [local irreducible] rj vP uV mz lN nj kj Au Bm zm Bl yp tF lM nc AJ iS kN
def Nd(gf t:Nat):ie:=
 .seq (.h_ [⟨some 1,.box 1 t (.tmp 0),none⟩,⟨some 2,.mv (.const .nilFunc),none⟩]) (.seq (.h_ [⟨some 3,.A2 gf [] [.tmp 1],none⟩,⟨some 2,.mv (.tmp 3),none⟩]) .ret)
theorem Ie{P:Program}{f gf t e:Nat}{α:Type}(enc:α->D)(xs:List α)(h:kH P f (Nd gf t) 4 [.tmp 2]):
 iC P f [.d (ia e enc xs)] [] 0 fun x s'=>x=.fn gf [] [.pv [ia e enc xs]]/\s'=[]:=by
 refine iC.YV (id:=1) (t:=t) ?_;refine h.lO (gZ ?_);delta Nd;refine iN ?_;exact⟨[],by simp,mT,mT⟩
end
def TL(nid:Nat)(x y:AV):Prop:=∀(β:iE)(O:Own)(w:World)(v:Value),β nid=.tok tQ 0->AV.ok β O w x v->AV.ok β O w y v
def PO(nid:Nat)(xs ys:List AV):Prop:=∀(β:iE)(O:Own)(w:World)(vs:List Value),β nid=.tok tQ 0->AV.iK β O w xs vs->AV.iK β O w ys vs
theorem TL.refl{nid:Nat}{x:AV}:TL nid x x:=fun _ _ _ _ _ h=>h
theorem PO.nil{nid:Nat}:PO nid [] []:=fun _ _ _ _ _ h=>h
theorem PO.cons{nid:Nat}{x y:AV}{xs ys:List AV}(h:TL nid x y)(hs:PO nid xs ys):PO nid (x::xs) (y::ys):=fun β O w vs hb hv=>by
 simp only[AV.iK]at hv⊢;obtain⟨v,r,h1,h2,h3⟩:=hv;exact⟨v,r,h1,h β O w v hb h2,hs β O w r hb h3⟩
theorem TL.nil{nid e e0:Nat}:TL nid (.d (.sl e0 (some true) [])) (.nr e nid 0):=fun β O w v hb hv=>by
 simp only[AV.ok]at hv⊢;have:=DK hv;subst this;exact⟨_,_,by rw[hb];exact⟨rfl,rfl⟩,aF _,fun _=>rfl,.inl ⟨none,rfl,trivial⟩⟩
theorem TL.mj{nid:Nat}{xs ys:List AV}(h:PO nid xs ys):TL nid (.mj xs) (.mj ys):=fun β O w v hb hv=>by
 simp only[AV.ok]at hv⊢;obtain⟨vs,h1,h2⟩:=hv;exact⟨vs,h1,h β O w _ hb h2⟩
theorem TL.agg{nid:Nat}{xs ys:List AV}(h:PO nid xs ys):TL nid (.agg xs) (.agg ys):=fun β O w v hb hv=>by
 simp only[AV.ok]at hv⊢;obtain⟨vs,h1,h0,h2⟩:=hv;exact⟨vs,h1,h0,h β O w _ hb h2⟩
theorem EB{O:Own}{w:World}:∀{xs:List D}{vs:List Value},D.iK O w xs vs->∀u∈vs,one u=true
 |[],vs,h=>by simp[D.iK]at h;subst h;simp
 |x::xs,vs,h=>by
  simp only[D.iK]at h;obtain⟨v,r,rfl,h1,_,h3⟩:=h;intro u hu;rcases bI.1 hu with rfl|hu
  ·exact h1
  ·exact EB h3 u hu
theorem TL.Zw{nid:Nat}{ds:List D}{ys:List AV}(h:PO nid (ds.map .d) ys):TL nid (.d (.agg ds)) (.agg ys):=fun β O w v hb hv=>by
 simp only[AV.ok,D.ok]at hv⊢;obtain⟨vs,h1,h2⟩:=hv;exact⟨vs,h1,EB h2,h β O w _ hb (Gx h2)⟩
theorem jw.Zc{k:Nat}{x:AV}{s:ij}(nid t e:Nat)(y:AV)(hd:sat s nid=.dead)(hxy:TL nid x y):jw k x s y (sset (sset s nid (.tok t e 0)) nid (.kQ t e 0 [])):=fun C β w v hC hi hx=>by
 have hst:St C β [] s {tmps:=#[],defers:=[]} w:=⟨.nil,hi,rfl,fun i x hx=>by simp at hx⟩;obtain⟨h1,m⟩:=hst.D2 (id:=nid) (t:=t) (e:=e) hd;obtain⟨h2,hf⟩:=h1.inv.Zf (id:=nid) (by rw[ki,ah rfl]);exact⟨_,h2,by rw[hf];exact hxy _ _ _ _ (by simp[iy]) (m.ok hx)⟩
def sq:Nat->List sJ->List iJ
 |_,[]=>[]
 |n,x::xs=>⟨some n,x,none⟩::sq (n+1) xs
def sg(g:Nat)(b:Bool):Nat->List sJ->List iJ
 |_,[]=>[]
 |n,x::xs=>⟨some n,x,some (some g,b)⟩::sg g b (n+1) xs
def s0(x:sJ):List iJ:=[⟨none,x,none⟩]
def t0(n:Nat):Operand:=.tmp n
def i0(n:Int):Operand:=.const (.int .i64 n)
def Wa:List Nat->List Operand
 |[]=>[]
 |n::ns=>.tmp n::Wa ns
def mv(n:Nat):sJ:=.mv (.tmp n)
def mi(n:Int):sJ:=.mv (.const (.int .i64 n))
def mb(b:Bool):sJ:=.mv (.const (.bool b))
def ld(n:Nat):sJ:=.load 1 false (.tmp n)
def la(e n:Nat):sJ:=.load e true (.tmp n)
def fa(o n:Nat):sJ:=.Qf o (.tmp n)
def cf(f:Nat)(ns:List Nat):sJ:=.kA f (Wa ns)
def pa(a b:Nat):sJ:=.pick (.tmp a) (.tmp b) (.const (.bool false))
def po(a b:Nat):sJ:=.pick (.tmp a) (.const (.bool true)) (.tmp b)
def bn(o:BinOp)(a b:Nat):sJ:=.bin o (.tmp a) (.tmp b)
def bi(o:BinOp)(a:Nat)(n:Int):sJ:=.bin o (.tmp a) (.const (.int .i64 n))
def nt(n:Nat):sJ:=.un .not (.tmp n)
def ln(n:Nat):sJ:=.len (.tmp n)
def ex(n i:Nat):sJ:=.ext (.tmp n) i
def ix(e a b:Nat):sJ:=.uE e (.tmp a) (.tmp b)
def bo(d t n:Nat):sJ:=.box d t (.tmp n)
def ap(d t e b x y:Nat):sJ:=.app d t e b (.tmp x) (.tmp y)
def sr(n a b:Nat):sJ:=.store n (.tmp a) (.tmp b)
theorem aaY{n:Nat}:sq n []=[]:=(rfl)
theorem aaX{n:Nat}{x:sJ}{xs:List sJ}:sq n (x::xs)=⟨some n,x,none⟩::sq (n+1) xs:=(rfl)
theorem aaW{g:Nat}{b:Bool}{n:Nat}:sg g b n []=[]:=(rfl)
theorem aaV{g:Nat}{b:Bool}{n:Nat}{x:sJ}{xs:List sJ}:sg g b n (x::xs)=⟨some n,x,some (some g,b)⟩::sg g b (n+1) xs:=(rfl)
theorem aaU{x:sJ}:s0 x=[⟨none,x,none⟩]:=(rfl)
theorem aa1{n:Nat}:t0 n=.tmp n:=(rfl)
theorem aaC{n:Int}:i0 n=.const (.int .i64 n):=(rfl)
theorem Ze:Wa []=[]:=(rfl)
theorem Zd{n:Nat}{ns:List Nat}:Wa (n::ns)=.tmp n::Wa ns:=(rfl)
theorem aaM{n:Nat}:mv n=.mv (.tmp n):=(rfl)
theorem aaL{n:Int}:mi n=.mv (.const (.int .i64 n)):=(rfl)
theorem aaK{b:Bool}:mb b=.mv (.const (.bool b)):=(rfl)
theorem aaG{n:Nat}:ld n=.load 1 false (.tmp n):=(rfl)
theorem aaF{e n:Nat}:la e n=.load e true (.tmp n):=(rfl)
theorem ZF{o n:Nat}:fa o n=.Qf o (.tmp n):=(rfl)
theorem ZB{f:Nat}{ns:List Nat}:cf f ns=.kA f (Wa ns):=(rfl)
theorem aaQ{a b:Nat}:pa a b=.pick (.tmp a) (.tmp b) (.const (.bool false)):=(rfl)
theorem aaR{a b:Nat}:po a b=.pick (.tmp a) (.const (.bool true)) (.tmp b):=(rfl)
theorem Zz{o:BinOp}{a b:Nat}:bn o a b=.bin o (.tmp a) (.tmp b):=(rfl)
theorem Zy{o:BinOp}{a:Nat}{n:Int}:bi o a n=.bin o (.tmp a) (.const (.int .i64 n)):=(rfl)
theorem aaO{n:Nat}:nt n=.un .not (.tmp n):=(rfl)
theorem aaI{n:Nat}:ln n=.len (.tmp n):=(rfl)
theorem ZE{n i:Nat}:ex n i=.ext (.tmp n) i:=(rfl)
theorem aaE{e a b:Nat}:ix e a b=.uE e (.tmp a) (.tmp b):=(rfl)
theorem ZA{d t n:Nat}:bo d t n=.box d t (.tmp n):=(rfl)
theorem Zx{d t e b x y:Nat}:ap d t e b x y=.app d t e b (.tmp x) (.tmp y):=(rfl)
theorem aaZ{n a b:Nat}:sr n a b=.store n (.tmp a) (.tmp b):=(rfl)
attribute [go_sem] aaY aaX aaW aaV aaU aa1 aaC Ze Zd aaM aaL aaK aaG aaF ZF ZB aaQ aaR Zz Zy aaO aaI ZE aaE ZA Zx aaZ
class iR {α:Type} (x:Option α) (Q:outParam (α->Prop)):Prop where
 c:∀{r:α},x=some r->Q r
def Qg{α β:Type}(x:Option α)(K:α->Option β)(r:β):Prop:=x.bind K=some r
def Ite{α:Type}(c:Bool)(a b:Option α)(r:α):Prop:=(if c=true then a else b)=some r
def Nds{α:Type}(p:Prop)(a:Option α)(r:α):Prop:=p/\a=some r
theorem toB{α β:Type}{x:Option α}{K:α->Option β}{r:β}(h:x.bind K=some r):Qg x K r:=h
theorem toI{α:Type}{c:Bool}{a b:Option α}{r:α}(h:(if c=true then a else b)=some r):Ite c a b r:=h
theorem toN{α:Type}{p:Prop}[Decidable p]{a:Option α}{r:α}(h:(if p then a else none)=some r):Nds p a r:=xo h
theorem toE{α:Type}{x r:α}(h:some x=some r):x=r:=c_ h
theorem toF{α:Type}{r:α}(h:none=some r):False:=by cases h
theorem it{α:Type}{c:Bool}{a b:Option α}{r:α}{p q1 q2:Prop}(h:Ite c a b r)(k1:c=true->a=some r->q1)(k2:c=false->b=some r->q2)
 (e1:c=true->p=q1:=by intro hc;(try simp only[ai,aQ,bN,aM,Nat.reduceAdd]at hc);first|((conv=>lhs;simp(maxSteps:=1000000) (disch:=omega)only[go_sem,k_,kY,mI,mH,bF,aW,bp,Nat.reduceAdd,Nat.reduceSub,Nat.reduceLeDiff,Nat.reduceEqDiff,Nat.reduceLT,Int.reduceToNat,reduceIte,reduceCtorEq,hc])<;>rfl)|rfl)
 (e2:c=false->p=q2:=by intro hc;(try simp only[ai,aQ,bN,aM,Nat.reduceAdd]at hc);first|((conv=>lhs;simp(maxSteps:=1000000) (disch:=omega)only[go_sem,k_,kY,mI,mH,bF,aW,bp,Nat.reduceAdd,Nat.reduceSub,Nat.reduceLeDiff,Nat.reduceEqDiff,Nat.reduceLT,Int.reduceToNat,reduceIte,reduceCtorEq,hc])<;>rfl)|rfl):p:=
 (DB h).elim (fun h=>(e1 h.1).symm▸k1 h.1 h.2) fun h=>(e2 h.1).symm▸k2 h.1 h.2
theorem Hs{ρ:Nat->Option Nat}{id e n:Nat}{ds:List D}:AV.kV ρ (AV.nk id ds (.nr e id n))=AV.nk id ds (.nr e id n):=by
 simp only[AV.nk,aC];split<;>rfl
attribute [go_sem] Hs
def Rt(p:Prop):Prop:=p
theorem rtA{c x:Prop}(h:c):Rt (c/\x)=Rt x:=propext ⟨fun k=>k.2,fun k=>⟨h,k⟩⟩
theorem qa{p q:Prop}(hq:q)(e:p=q:=by first|((conv=>lhs;change Rt _;simp(maxSteps:=1000000) (disch:=omega)only[rtA,go_sem,k_,kY,mI,mH,bF,aW,bp,Nat.reduceAdd,Nat.reduceSub,Nat.reduceLeDiff,Nat.reduceEqDiff,Nat.reduceLT,Int.reduceToNat,reduceIte,reduceCtorEq];delta Rt)<;>rfl)|rfl):p:=e▸hq
theorem ndN{α:Type}{c p q:Prop}{a:Option α}{r:α}(h:Nds c a r)(k:c->a=some r->q)
 (e:c->p=q:=by intro hp;(try(have hq':=hp;simp only[ai,aQ,bN,aM,Nat.reduceAdd]at hq'));first|((conv=>lhs;change Rt _;simp(maxSteps:=1000000) (disch:=omega)only[rtA,go_sem,k_,kY,mI,mH,bF,aW,bp,Nat.reduceAdd,Nat.reduceSub,Nat.reduceLeDiff,Nat.reduceEqDiff,Nat.reduceLT,Int.reduceToNat,reduceIte,reduceCtorEq];delta Rt)<;>rfl)|rfl):p:=(e h.1).symm▸(k h.1 h.2)
theorem j_{α:Type}{c p q:Prop}{_:Decidable c}{a:Option α}{r:α}(h:(if c then a else none)=some r)(k:c->a=some r->q)
 (e:c->p=q:=by intro hp;(try(have hq':=hp;simp only[ai,aQ,bN,aM,Nat.reduceAdd]at hq'));first|((conv=>lhs;change Rt _;simp(maxSteps:=1000000) (disch:=omega)only[rtA,go_sem,k_,kY,mI,mH,bF,aW,bp,Nat.reduceAdd,Nat.reduceSub,Nat.reduceLeDiff,Nat.reduceEqDiff,Nat.reduceLT,Int.reduceToNat,reduceIte,reduceCtorEq];delta Rt)<;>rfl)|rfl):p:=(e (xo h).1).symm▸(k (xo h).1 (xo h).2)
section
variable{α β:Type}{P:Program}{k0 f:Nat}{args env:List AV}{s:ij}{d:Option Nat}{R:List AV->ij->Prop}{F:List (List Nat×List Nat)->List AV->ij->Prop}{ms:List iJ}{acc:List (List Nat×List Nat)}{foot:List Nat}
 {x:Option α} {K:α->Option β} {r:β} {q:α->Prop}
theorem rC{dz:List D}{y:α->D}[i:iR x fun a=>jU P f dz (y a)](h:Qg x K r)(hk:∀a,x=some a->K a=some r->q a)
 (e:∀a,R (iU d env (.d (y a))) s=q a:=by intro a;first|((conv=>lhs;simp(maxSteps:=1000000) (disch:=omega)only[go_sem,k_,kY,mI,mH,bF,aW,bp,Nat.reduceAdd,Nat.reduceSub,Nat.reduceLeDiff,Nat.reduceEqDiff,Nat.reduceLT,Int.reduceToNat,reduceIte,reduceCtorEq])<;>rfl)|rfl) (ha:iS (args.map fun x=>x.kV (oz [])) (dz.map .d):=by exact mT):lM P k0 f args env s d R:=
 let⟨a,h1,h2⟩:=bind_some h;NL (i.c h1) ha ((e a).symm▸hk a h1 h2)
theorem R8{dz:List D}{y:α->List D}[i:iR x fun a=>oH P f dz (y a)](h:Qg x K r)(hk:∀a,x=some a->K a=some r->q a)
 (e:∀a,R (iU d env (.mj ((y a).map .d))) s=q a:=by intro a;first|((conv=>lhs;simp(maxSteps:=1000000) (disch:=omega)only[go_sem,k_,kY,mI,mH,bF,aW,bp,Nat.reduceAdd,Nat.reduceSub,Nat.reduceLeDiff,Nat.reduceEqDiff,Nat.reduceLT,Int.reduceToNat,reduceIte,reduceCtorEq])<;>rfl)|rfl) (ha:iS (args.map fun x=>x.kV (oz [])) (dz.map .d):=by exact mT):lM P k0 f args env s d R:=
 let⟨a,h1,h2⟩:=bind_some h;Lm (i.c h1) ha ((e a).symm▸hk a h1 h2)
theorem dC{dz:List D}{y:α->D}[i:iR x fun a=>jU P f dz (y a)](h:Qg x K r)(hk:∀a,x=some a->K a=some r->q a)
 (e:∀a,uV P k0 F ms ((foot,[])::acc) (iU d env (.d (y a))) s=q a:=by intro a;first|((conv=>lhs;simp(maxSteps:=1000000) (disch:=omega)only[go_sem,k_,kY,mI,mH,bF,aW,bp,Nat.reduceAdd,Nat.reduceSub,Nat.reduceLeDiff,Nat.reduceEqDiff,Nat.reduceLT,Int.reduceToNat,reduceIte,reduceCtorEq])<;>rfl)|rfl) (ha:iS (args.map fun x=>x.kV (oz [])) (dz.map .d):=by exact mT):nc P k0 F ms acc foot d env s f args:=
 let⟨a,h1,h2⟩:=bind_some h;NJ (i.c h1) ha ((e a).symm▸hk a h1 h2)
theorem ZC{dz:List D}{y:α->List D}[i:iR x fun a=>oH P f dz (y a)](h:Qg x K r)(hk:∀a,x=some a->K a=some r->q a)
 (e:∀a,uV P k0 F ms ((foot,[])::acc) (iU d env (.mj ((y a).map .d))) s=q a:=by intro a;first|((conv=>lhs;simp(maxSteps:=1000000) (disch:=omega)only[go_sem,k_,kY,mI,mH,bF,aW,bp,Nat.reduceAdd,Nat.reduceSub,Nat.reduceLeDiff,Nat.reduceEqDiff,Nat.reduceLT,Int.reduceToNat,reduceIte,reduceCtorEq])<;>rfl)|rfl) (ha:iS (args.map fun x=>x.kV (oz [])) (dz.map .d):=by exact mT):nc P k0 F ms acc foot d env s f args:=
 let⟨a,h1,h2⟩:=bind_some h;Ll (i.c h1) ha ((e a).symm▸hk a h1 h2)
theorem rB(pr nw:List gF){dz:List AV}{s1:ij}{t:α->ij}{y:α->AV}[i:iR x fun a=>iC P f dz s1 pr.length fun x s'=>x=y a/\s'=t a](h:Qg x K r)(hk:∀a,x=some a->K a=some r->q a)
 (e:∀a,R (iU d env ((y a).kV (mh (pr++nw)))) (qo s (t a) (pr++nw) (pr++nw))=q a:=by intro a;first|((conv=>lhs;simp(maxSteps:=1000000) (disch:=omega)only[go_sem,k_,kY,mI,mH,bF,aW,bp,Nat.reduceAdd,Nat.reduceSub,Nat.reduceLeDiff,Nat.reduceEqDiff,Nat.reduceLT,Int.reduceToNat,reduceIte,reduceCtorEq])<;>rfl)|rfl)
 (h1:pr.map (·.1)=List.range pr.length:=by rfl) (h2:((pr++nw).map (·.1)).Nodup:=by decide) (h3:((pr++nw).map (·.2)).Nodup:=by decide)
 (h4:∀p∈nw,sat s p.2=.dead/\k0<=p.2:=by simp[sat]) (ha:iS (args.map fun x=>x.kV (oz pr)) dz:=by exact mT) (hs:kN (lS s pr pr) s1:=by exact mT):lM P k0 f args env s d R:=
 let⟨a,g1,g2⟩:=bind_some h;AI pr nw (i.c g1) h1 h2 h3 h4 ha hs ((e a).symm▸hk a g1 g2)
theorem UL(pr nw:List gF){dz:List AV}{s1:ij}{t:α->ij}{y:α->AV}[i:iR x fun a=>iC P f dz s1 pr.length fun x s'=>x=y a/\s'=t a](h:Qg x K r)(hk:∀a,x=some a->K a=some r->q a)
 (e:∀a,uV P k0 F ms (((pr++nw).map (·.2)++foot,(Hj (t a) (pr++nw) (pr++nw)).map (·.1))::acc) (iU d env ((y a).kV (mh (pr++nw)))) (qt s (Hj (t a) (pr++nw) (pr++nw)))=q a:=by intro a;first|((conv=>lhs;simp(maxSteps:=1000000) (disch:=omega)only[go_sem,k_,kY,mI,mH,bF,aW,bp,Nat.reduceAdd,Nat.reduceSub,Nat.reduceLeDiff,Nat.reduceEqDiff,Nat.reduceLT,Int.reduceToNat,reduceIte,reduceCtorEq])<;>rfl)|rfl)
 (h1:pr.map (·.1)=List.range pr.length:=by rfl) (h2:((pr++nw).map (·.1)).Nodup:=by decide) (h3:((pr++nw).map (·.2)).Nodup:=by decide)
 (h4:∀p∈nw,sat s p.2=.dead/\k0<=p.2:=by simp[sat]) (ha:iS (args.map fun x=>x.kV (oz pr)) dz:=by exact mT) (hs:kN (lS s pr pr) s1:=by exact mT):nc P k0 F ms acc foot d env s f args:=
 let⟨a,g1,g2⟩:=bind_some h;QW pr nw (i.c g1) h1 h2 h3 h4 ha hs ((e a).symm▸hk a g1 g2)
end
theorem mA{p:Prop}(h:p:=by repeat' first
 |refine jV (by kernel_rfl) (iN ?_)
 |refine yW gY (qa ?_)
 |(with_reducible replace h:=toE h);subst h;first|(refine⟨_,rfl,iL.V8 ?_ ?_⟩<;>(first|(simp only[go_sem,ia,aR,bM,bR,aG,Nat.reduceAdd,Nat.reduceSub,Nat.reduceLeDiff,Nat.reduceEqDiff,Nat.reduceLT,reduceIte,reduceCtorEq];done)|((try simp only[go_sem,ia,aR,bM,bR,aG,Nat.reduceAdd,Nat.reduceSub,Nat.reduceLeDiff,Nat.reduceEqDiff,Nat.reduceLT,reduceIte,reduceCtorEq];repeat' (first|exact AV.le_refl _|refine And.intro ?_ ?_|refine AV.yT ?_|refine AV.we ?_|refine AV.Ao ?_|refine AV.xO (DL.agg ?_)|exact UQ|exact CC|refine UP ?_ ?_|refine zR ?_ ?_|exact UN|refine UM ?_ ?_|exact sv (AV.xO DL.nil) _|exact D.le_refl _|exact xJ|exact sj|refine xI ?_|(simp only[go_sem,ia,aR,bM,bR,aG,Nat.reduceAdd,Nat.reduceSub,Nat.reduceLeDiff,Nat.reduceEqDiff,Nat.reduceLT,reduceIte,reduceCtorEq];done)|refine qu.append (qu.refl _) ?_|refine AV.tZ ?_|refine AV.DH ?_|omega));done)))|(first|(simp only[go_sem,ia,aR,bM,bR,aG,Nat.reduceAdd,Nat.reduceSub,Nat.reduceLeDiff,Nat.reduceEqDiff,Nat.reduceLT,reduceIte,reduceCtorEq];done)|((try simp only[go_sem,ia,aR,bM,bR,aG,Nat.reduceAdd,Nat.reduceSub,Nat.reduceLeDiff,Nat.reduceEqDiff,Nat.reduceLT,reduceIte,reduceCtorEq];repeat' (first|exact AV.le_refl _|refine And.intro ?_ ?_|refine AV.yT ?_|refine AV.we ?_|refine AV.Ao ?_|refine AV.xO (DL.agg ?_)|exact UQ|exact CC|refine UP ?_ ?_|refine zR ?_ ?_|exact UN|refine UM ?_ ?_|exact sv (AV.xO DL.nil) _|exact D.le_refl _|exact xJ|exact sj|refine xI ?_|(simp only[go_sem,ia,aR,bM,bR,aG,Nat.reduceAdd,Nat.reduceSub,Nat.reduceLeDiff,Nat.reduceEqDiff,Nat.reduceLT,reduceIte,reduceCtorEq];done)|refine qu.append (qu.refl _) ?_|refine AV.tZ ?_|refine AV.DH ?_|omega));done))|(refine⟨[],by simp,?_,?_⟩<;>(first|(simp only[go_sem,ia,aR,bM,bR,aG,Nat.reduceAdd,Nat.reduceSub,Nat.reduceLeDiff,Nat.reduceEqDiff,Nat.reduceLT,reduceIte,reduceCtorEq];done)|((try simp only[go_sem,ia,aR,bM,bR,aG,Nat.reduceAdd,Nat.reduceSub,Nat.reduceLeDiff,Nat.reduceEqDiff,Nat.reduceLT,reduceIte,reduceCtorEq];repeat' (first|exact AV.le_refl _|refine And.intro ?_ ?_|refine AV.yT ?_|refine AV.we ?_|refine AV.Ao ?_|refine AV.xO (DL.agg ?_)|exact UQ|exact CC|refine UP ?_ ?_|refine zR ?_ ?_|exact UN|refine UM ?_ ?_|exact sv (AV.xO DL.nil) _|exact D.le_refl _|exact xJ|exact sj|refine xI ?_|(simp only[go_sem,ia,aR,bM,bR,aG,Nat.reduceAdd,Nat.reduceSub,Nat.reduceLeDiff,Nat.reduceEqDiff,Nat.reduceLT,reduceIte,reduceCtorEq];done)|refine qu.append (qu.refl _) ?_|refine AV.tZ ?_|refine AV.DH ?_|omega));done)))
 |(with_reducible exact(toF h).elim)
 |(with_reducible replace h:=toI h);refine it h (fun hc h=>?_) (fun hc h=>?_)
 |(with_reducible replace h:=toN h);refine ndN h (fun hp h=>?_)
 |(with_reducible replace h:=toB h);first|refine rC h (fun r hr h=>?_)|refine R8 h (fun r hr h=>?_)|refine dC h (fun r hr h=>?_)|refine ZC h (fun r hr h=>?_)
 |(with_reducible replace h:=iZ h hb3)
 |(with_reducible replace h:=iZ h hb2)
 |(with_reducible replace h:=iZ h hb1)
 |(exfalso;simp only[av,cm]at *;omega)):p:=h
theorem iT{α:Type}{c:Bool}{a b:Option α}{r:α}{p q1:Prop}(h:(if c=true then a else b)=some r)(k1:c=true->a=some r->q1)
 (e1:c=true->p=q1:=by intro hc;(try simp only[ai,aQ,bN,aM,Nat.reduceAdd]at hc);first|((conv=>lhs;simp(maxSteps:=1000000) (disch:=omega)only[go_sem,k_,kY,mI,mH,bF,aW,bp,Nat.reduceAdd,Nat.reduceSub,Nat.reduceLeDiff,Nat.reduceEqDiff,Nat.reduceLT,Int.reduceToNat,reduceIte,reduceCtorEq,hc])<;>rfl)|rfl)
 (k2:c=false->b=some r->p:=by intro hc h;(try simp only[ai,aQ,bN,aM,Nat.reduceAdd]at hc);refine rz hc ?_;exact mA):p:=
 (DB h).elim (fun h=>(e1 h.1).symm▸k1 h.1 h.2) fun h=>k2 h.1 h.2
theorem iF{α:Type}{c:Bool}{a b:Option α}{r:α}{p q2:Prop}(h:(if c=true then a else b)=some r)(k2:c=false->b=some r->q2)
 (e2:c=false->p=q2:=by intro hc;(try simp only[ai,aQ,bN,aM,Nat.reduceAdd]at hc);first|((conv=>lhs;simp(maxSteps:=1000000) (disch:=omega)only[go_sem,k_,kY,mI,mH,bF,aW,bp,Nat.reduceAdd,Nat.reduceSub,Nat.reduceLeDiff,Nat.reduceEqDiff,Nat.reduceLT,Int.reduceToNat,reduceIte,reduceCtorEq,hc])<;>rfl)|rfl)
 (k1:c=true->a=some r->p:=by intro hc h;(try simp only[ai,aQ,bN,aM,Nat.reduceAdd]at hc);refine rz hc ?_;exact mA):p:=
 (DB h).elim (fun h=>k1 h.1 h.2) fun h=>(e2 h.1).symm▸k2 h.1 h.2
theorem kT{P:Program}{k:Nat}{Q:Post}{env:List AV}{s:ij}{x:ie}{σ β:Type}{f:σ->Option (σ⊕β)}{s0:σ}{b:β}(hb:iw f s0=some b)
 (ws:List Nat) (vs:σ->List (Nat×AV)) (S:σ->ij)
 (round:∀p t,f p=some t->(∀b',t=.inr b'->b'=b)->nj P k x (xD (fun env' s'=>∃p',t=.inl p'/\iL k env' s' (oF (qm env ws) (vs p')) (S p')) Q)
  (oF (qm env ws) (vs p)) (S p)) (hw:iL k env s (oF (qm env ws) (vs s0)) (S s0):=by(try dsimp only);exact wk):nj P k (.loop x) Q env s:=um hb ws vs S hw round
def aaH:D->Bool
 |.lit _=>true
 |_=>false
def Gu:D->Bool
 |.lit _=>true
 |.sl _ _ _=>true
 |_=>false
def KY:D->AV
 |.sl e nl xs=>.dp (.sl e nl xs)
 |x=>.d x
theorem HY{β:iE}{O:Own}{w:World}{x:D}{v:Value}{bs:List Nat}(hx:Gu x=true)(h:NX β O w (KY x) v bs):NV w x v bs:=by
 cases x with
 |any=>cases hx
 |agg cs=>cases hx
 |lit u=>
  obtain⟨h1,h2⟩:=h;have h1:D.ok O w (.lit u) v:=by
   have h1:AV.ok β O w (.d (.lit u)) v:=h1;simpa only[AV.ok]using h1
  have h1:v=u/\one u=true:=by simpa only[D.ok]using h1
  exact⟨h1.1,h1.2,h2⟩
 |sl e nl xs=>exact h
theorem CW{β:iE}{O:Own}{w:World}:∀{cs:List D}{vs r:List Value}{bs:List Nat},(∀x∈cs,Gu x=true)->vs.length=cs.length->tJ β O w (cs.map KY) (vs++r) bs->NC w cs vs bs
 |[],vs,r,bs,_,hl,h=>by
  simp only[dr,tJ]at h;simp only[NC];exact⟨b_.1 hl,h⟩
 |c::cs,[],r,bs,_,hl,_=>by simp at hl
 |c::cs,u::us,r,bs,hc,hl,h=>by
  simp only[aP,bP,tJ]at h;obtain⟨v,q,b1,b2,h1,rfl,h3,h4⟩:=h;cases h1;simp only[NC];exact⟨u,us,b1,b2,rfl,rfl,HY (hc c (by simp)) h3,CW (fun x hx=>hc x (by simp[hx])) (by simpa using hl) h4⟩
theorem HX{β:iE}{O:Own}{w:World}{e:Nat}:∀{xs:List D}{vs:List Value}{bs:List Nat},(∀x∈xs,(iq x).length=e)->(∀x∈xs,∀c∈iq x,Gu c=true)->
 tJ β O w ((xs.flatMap iq).map KY) vs bs->NR w e xs vs bs
 |[],vs,bs,_,_,h=>by simpa[tJ,NR]using h
 |x::xs,vs,bs,he,hc,h=>by
  rw[cX,aR]at h;obtain⟨h1,b1,b2,rfl,h2,h3⟩:=zn h;rw[aM]at h1 h3;have hlen:=he x (by simp);have hsp:vs=vs.take e++vs.drop e:=(cx e vs).symm;have hle:e<=vs.length:=by omega
  have ih:=HX (xs:=xs) (fun y hy=>he y (by simp[hy])) (fun y hy=>hc y (by simp[hy])) h3;rw[hlen]at ih;have hnc:NC w (iq x) (vs.take e) b1:=CW (r:=vs.drop e) (hc x (by simp)) (by rw[cg,hlen];omega) (by rw[cx];exact h2);cases x with
  |agg cs=>
   simp only[NR];exact⟨vs.take e,vs.drop e,b1,b2,hsp,by rw[cg];omega,rfl,hnc,ih⟩
  |any=>exact absurd (hc .any (by simp) .any (by simp[iq])) (by simp[Gu])
  |lit u=>
   simp only[iq,aQ,bN]at hlen;subst hlen;simp only[iq,NC]at hnc;obtain⟨v,r,c1,c2,g1,rfl,g3,g4,rfl⟩:=hnc;simp only[NR];exact⟨v,vs.drop 1,c1,b2,by
    conv=>lhs;rw[hsp]
    rw[g1,g4];rfl,by trivial,by simp,g3,ih⟩
  |sl e' nl ys=>
   simp only[iq,aQ,bN]at hlen;subst hlen;simp only[iq,NC]at hnc;obtain⟨v,r,c1,c2,g1,rfl,g3,g4,rfl⟩:=hnc;simp only[NR];exact⟨v,vs.drop 1,c1,b2,by
    conv=>lhs;rw[hsp]
    rw[g1,g4];rfl,by trivial,by simp,g3,ih⟩
def Pt(ds:List D):List AV:=(ds.flatMap iq).map KY
theorem sk{ρ:Nat->Option Nat}:∀{ds:List D},AV.i_ ρ (Pt ds)=Pt ds:=fun{ds}=>by
 rw[od];unfold Pt;rw[eS];refine eP fun x _=>?_
 cases x<;>rfl
mutual
theorem NV.ok{O:Own}{w:World}:∀{x:D}{v:Value}{bs:List Nat},NV w x v bs->(∀b∈bs,∀o,¬O b o)->D.ok O w x v
 |.any,_,_=>fun h _=>h.elim
 |.agg _,_,_=>fun h _=>h.elim
 |.lit u,v,bs=>fun h _=>by
  simp only[NV]at h;simp only[D.ok];exact⟨h.1,h.2.1⟩
 |.sl e nl xs,v,bs=>fun h hO=>by
  simp only[NV]at h;simp only[D.ok];obtain⟨a,cap,rfl,h2,h3,h4⟩:=h;refine⟨a,cap,rfl,h2,h3,?_⟩;rcases h4 with⟨_,rfl,_⟩|⟨b,vs,t,bs',rfl,rfl,h5,h6,h7,h8⟩
  ·exact .inl rfl
  ·refine .inr ⟨b,0,rfl,NR.row h8 (fun q hq=>hO q (by simp[hq])) fun j u hj=>?_⟩;refine⟨?_,hO b (by simp) _,h7 u (bO hj)⟩;simp only[World.cell?,h5,cC,aj,aE,bU];simpa using hj
theorem NC.iK{O:Own}{w:World}:∀{xs:List D}{vs:List Value}{bs:List Nat},NC w xs vs bs->(∀v∈vs,one v=true)->(∀b∈bs,∀o,¬O b o)->D.iK O w xs vs
 |[],vs,bs=>fun h _ _=>by
  simp only[NC]at h;simp only[D.iK];exact h.1
 |c::cs,vs,bs=>fun h h1 hO=>by
  simp only[NC]at h;obtain⟨v,r,b1,b2,rfl,rfl,h3,h4⟩:=h;simp only[D.iK];exact⟨v,r,rfl,h1 v (by simp),NV.ok h3 (fun b hb=>hO b (by simp[hb])),NC.iK h4 (fun v hv=>h1 v (by simp[hv])) (fun b hb=>hO b (by simp[hb]))⟩
theorem NR.row{O:Own}{w:World}{b o e:Nat}:∀{xs:List D}{vs:List Value}{bs:List Nat},NR w e xs vs bs->(∀b∈bs,∀o,¬O b o)->kz O w b o vs->D.row O w b o e xs
 |[],_,_=>fun _ _ _=>by simp[D.row]
 |.agg cs::xs,vs,bs=>fun h hO hc=>by
  simp only[NR]at h;obtain⟨us,r,b1,b2,rfl,hl,rfl,h3,h4⟩:=h;simp only[D.row];have hc1:kz O w b o us:=fun j v hj=>hc j v (by rw[aZ (aO.1 hj).1];exact hj)
  have hc2:kz O w b (o+e) r:=fun j v hj=>by
   have:=hc (e+j) v (by rw[bH gY,hl,dM];exact hj);rwa [<-dg]at this
  exact⟨⟨us,hl,hc1,NC.iK h3 (fun v hv=>by obtain⟨j,hj⟩:=cK hv;exact(hc1 j v hj).2.2) fun b hb=>hO b (by simp[hb])⟩,NR.row h4 (fun b hb=>hO b (by simp[hb])) hc2⟩
 |.any::xs,vs,bs=>fun h hO hc=>by
  simp only[NR]at h;obtain⟨v,r,b1,b2,rfl,rfl,rfl,h3,h4⟩:=h;exact h3.elim
 |.lit u::xs,vs,bs=>fun h hO hc=>by
  have hq:=fun v b1=>NV.ok (O:=O) (w:=w) (x:=.lit u) (v:=v) (bs:=b1)
  simp only[NR]at h;obtain⟨v,r,b1,b2,rfl,rfl,rfl,h3,h4⟩:=h;simp only[D.row];refine⟨⟨v,by trivial,fun j u hj=>?_,hq v b1 h3 (fun b hb=>hO b (by simp[hb]))⟩,NR.row h4 (fun b hb=>hO b (by simp[hb])) fun j u hj=>?_⟩
  ·cases j with
   |zero=>exact hc 0 u (by simpa using hj)
   |succ j=>simp at hj
  ·have:=hc (1+j) u (by rw[cN];simpa using hj);rwa [<-dg]at this
 |.sl e' nl ys::xs,vs,bs=>fun h hO hc=>by
  have hq:=fun v b1=>NV.ok (O:=O) (w:=w) (x:=.sl e' nl ys) (v:=v) (bs:=b1)
  simp only[NR]at h;obtain⟨v,r,b1,b2,rfl,rfl,rfl,h3,h4⟩:=h;simp only[D.row];refine⟨⟨v,by trivial,fun j u hj=>?_,hq v b1 h3 (fun b hb=>hO b (by simp[hb]))⟩,NR.row h4 (fun b hb=>hO b (by simp[hb])) fun j u hj=>?_⟩
  ·cases j with
   |zero=>exact hc 0 u (by simpa using hj)
   |succ j=>simp at hj
  ·have:=hc (1+j) u (by rw[cN];simpa using hj);rwa [<-dg]at this
end
theorem Inv.grown{C:Ctx}{β:iE}{s:ij}{w w':World}(h:Inv C β s w)(hs:w.heap.size<=w'.heap.size)(hio:yo w'=yo w)(hk:∀b,b<w.heap.size->w'.heap[b]?=w.heap[b]?):Inv C β s w':=
 (St.grow (env:=[]) (a:={tmps:=#[],defers:=[]}) ⟨.nil,h,rfl,fun i x hx=>by simp at hx⟩ hs hio hk).inv
class Qh {α:Type} (f:α->D):Prop where
 lit:∀x,aaH (f x)=true
class Cl {α:Type} (f:α->D):Prop where
 cl:∀x,∀c∈iq (f x),Gu c=true
instance:Qh iD:=⟨fun _=>rfl⟩
instance:Qh bD:=⟨fun _=>rfl⟩
instance:Qh sD:=⟨fun _=>rfl⟩
instance{k:IntKind}:Qh (kD k):=⟨fun _=>rfl⟩
instance:Cl iD:=⟨fun _ c h=>by simp only[iD,iq,aX]at h;subst h;rfl⟩
instance:Cl bD:=⟨fun _ c h=>by simp only[bD,iq,aX]at h;subst h;rfl⟩
instance:Cl sD:=⟨fun _ c h=>by simp only[sD,iq,aX]at h;subst h;rfl⟩
instance{k:IntKind}:Cl (kD k):=⟨fun _ c h=>by simp only[kD,iq,aX]at h;subst h;rfl⟩
instance{α:Type}{e:Nat}{f:α->D}:Cl (ia e f):=⟨fun _ c h=>by simp only[ia,iq,aX]at h;subst h;rfl⟩
section
variable{α:Type}{f:α->D}{e n id:Nat}{s:ij}{xs ys:List α}
variable[Inhabited α]{i k:Nat}
end
attribute [go_sem] sk
def eD{α:Type}(f:α->D)(M:List (Lit×α)):List (Lit×D):=M.map fun p=>(p.1,f p.2)
section
variable{α:Type}{f:α->D}{M:List (Lit×α)}{kl:Lit}{x:α}
theorem UO:eD f []=[]:=rfl
theorem Q3:eD f ((kl,x)::M)=(kl,f x)::eD f M:=rfl
end
theorem NO{id:Nat}:AV.cells (.mp id)=some [.mp id]:=rfl
theorem Sv{id:Nat}{xs:List AV}:AV.qE (.mp id::xs)=none:=rfl
theorem IS{v:Value}:IQ (.lit v)=false:=rfl
theorem LK{e:Nat}{nl:Option Bool}{xs:List D}:IQ (.sl e nl xs)=false:=rfl
theorem IT{α:Type}{e:Nat}{f:α->D}{xs:List α}:IQ (ia e f xs)=false:=rfl
attribute [go_sem] UO Q3 NO Sv IS LK IT
def YW(id:Nat)(ds:List D):AV->AV
 |.ptr j off=>if j=id then .pv (ds.drop off)else .ptr j off
 |x=>x
def VP:AV->Bool
 |.ptr _ _=>true
 |.pv _=>true
 |.d _=>true
 |_=>false
def Ok:AV->Bool
 |.d _=>true
 |_=>false
def NU:Ob->Bool
 |.obj _ cs=>cs.all Ok
 |.dead=>true
 |_=>false
theorem E3{ρ:Nat->Option Nat}:∀{cs:List AV},cs.all Ok=true->AV.i_ ρ cs=cs
 |[],_=>rfl
 |x::xs,h=>by
  rw[eI,bu]at h;have ih:=E3 (ρ:=ρ) h.2;cases x with
  |d y=>simp only[AV.i_,AV.kV,ih]
  |_=>exact absurd h.1 (by simp[Ok])
theorem NW{rest:ij}(hr:rest.all (fun p=>NU p.2)=true)(j:Nat):NU (sat rest j)=true:=by
 induction rest with
 |nil=>rfl
 |cons p r ih=>
  rw[eI,bu]at hr;simp only[sat];split
  ·exact hr.1
  ·exact ih hr.2
theorem LS{id:Nat}{o:Ob}(h:NU o=true):o.kill id=o:=by
 cases o<;>simp[NU]at h
 ·rfl
 ·rename_i t cs;simp only[Ob.kill];rw[E3 (by rw[cy];exact h)]
theorem iC.pvs{P:Program}{f:Nat}{args:List AV}{g id t:Nat}{caps:List AV}{ds:List D}{rest:ij}(h:iC P f args [] 0 fun x s'=>x=.fn g [] caps/\s'=(id,.obj t (ds.map .d))::rest)
 (hc:caps.all VP=true) (hr:rest.all (fun p=>NU p.2)=true) (hd:sat rest id=.dead):iC P f args [] 0 fun x s'=>x=.fn g [] (caps.map (YW id ds))/\s'=rest:=fun C vs hs hk hinv hargs=>by
 refine(h C vs hs hk hinv hargs).mono fun e w' ⟨v,x,β',s',he,hi,hx,hxe,hse⟩=>?_
 subst hxe hse;have ho:=hi.obs id;simp only[sat,aC]at ho;obtain⟨b,us,hb,hh,hone,pre,rst,hus,hpre⟩:=ho;have hob:=NW hr;have hsat:∀j,sat (jz id ((id,Ob.obj t (ds.map .d))::rest)) j=sat rest j:=fun j=>by
  rw[qb];by_cases hj:j=id
  ·subst hj;simp[hd]
  ·simp only[hj,aE,sat];exact LS (hob j)
 obtain⟨h2,hf⟩:=(hi.kill id (by rw[hk];exact cZ _)).told (s':=rest) fun j=>by rw[hsat j];exact zJ.refl _
 have hsub:∀b o,C.ir (iy β' id .no) rest b o->C.ir β' ((id,Ob.obj t (ds.map .d))::rest) b o:=fun b o ho=>by
  rw[hf]at ho;exact ho.imp (fun h=>h) uB
 have hblk:ic β' ((id,Ob.obj t (ds.map .d))::rest) id b:=by simp only[ic,sat,aC];exact hb
 have hnot:∀o,¬C.ir (iy β' id .no) rest b o:=fun o ho=>by
  rcases ho with ho|ho
  ·have h1:=hi.low b o ho;have hown:own β' ((id,.obj t (ds.map .d))::rest) b o:=⟨id,by simp only[sat,aC];exact hb⟩;rcases hi.pO b o hown with h3|h3
   ·exact h1.2 h3
   ·omega
  ·obtain⟨j,hj⟩:=ho.block;have hj1:ic β' ((id,Ob.obj t (ds.map .d))::rest) j b/\j≠id:=by
    have hji:j≠id:=fun e=>by subst e;unfold ic at hj;rw[hd]at hj;exact hj
    refine⟨?_,hji⟩;have:=tg (β:=β') (s:=(id,Ob.obj t (ds.map .d))::rest) (id:=id) (i:=j) (b:=b) (by
     unfold ic at hj⊢;rw[hsat];exact hj)
    exact this
   exact hj1.2 (hi.inj j id b hj1.1 hblk)
 simp only[AV.ok,AV.iK]at hx;obtain⟨fs,cs,rfl,hfs,hcs⟩:=hx;refine⟨_,_,_,_,he,h2,?_,rfl,rfl⟩;simp only[AV.ok,AV.iK];refine⟨fs,cs,rfl,hfs,?_⟩;have dm:∀{x:D}{u:Value},D.ok (C.ir β' ((id,Ob.obj t (ds.map .d))::rest)) w' x u->D.ok (C.ir (iy β' id .no) rest) w' x u:=fun{x u} hx=>D.iY (fun b o v hc hn'=>⟨hc,fun h=>hn' (hsub b o h)⟩) _ _ hx
 have key:∀(caps:List AV)(us':List Value),caps.all VP=true->AV.iK β' (C.ir β' ((id,Ob.obj t (ds.map .d))::rest)) w' caps us'->AV.iK (iy β' id .no) (C.ir (iy β' id .no) rest) w' (caps.map (YW id ds)) us':=by
  intro caps;induction caps with
  |nil=>intro us' _ h;simpa[AV.iK]using h
  |cons x xs ih=>
   intro us' hc h;simp only[eI,bu]at hc;simp only[aP,AV.iK]at h⊢;obtain⟨u,r,rfl,h3,h4⟩:=h;refine⟨u,r,rfl,?_,ih r hc.2 h4⟩;cases x<;>simp[VP]at hc
   ·rename_i d;simp only[YW,AV.ok]at h3⊢;exact dm h3
   ·rename_i j off;simp only[YW];simp only[AV.ok]at h3;obtain⟨b2,hb2,rfl⟩:=h3;by_cases hj:j=id
    ·subst hj;rw[hb]at hb2;cases hb2;simp only[aC,AV.ok];have hl:=AV.iP hpre;have hp2:=(AV.jD.1 hpre).2;refine⟨b,off,pre.drop off,rfl,fun q u hq=>?_,?_⟩
     ·rw[cE]at hq;have hq2:us.toList[off+q]?=some u:=by rw[hus,aZ (aO.1 hq).1];exact hq
      refine⟨?_,hnot _,hone u (bO hq2)⟩;simp only[World.cell?,hh,cC,aj,aE];simpa using hq2
     ·refine D.jD.2 ⟨by simp at hl;simp[hl],fun q x u hx hu=>?_⟩;rw[cE]at hx hu;have hu2:us.toList[off+q]?=some u:=by rw[hus,aZ (aO.1 hu).1];exact hu
      refine⟨hone u (bO hu2),?_⟩;have:=hp2 (off+q) (.d x) u (by rw[bt,hx];rfl) hu;simp only[AV.ok]at this;exact dm this
    ·simp only[hj,aE,AV.ok];exact⟨b2,by simpa[iy,hj]using hb2,rfl⟩
   ·rename_i cs2;simp only[YW];simp only[AV.ok]at h3⊢;obtain⟨b2,o2,vs2,rfl,k1,k2⟩:=h3;exact⟨b2,o2,vs2,rfl,k1.mono (fun b o v hc hn'=>⟨hc,fun h=>hn' (hsub b o h)⟩),D.jy (fun b o v hc hn'=>⟨hc,fun h=>hn' (hsub b o h)⟩) _ _ k2⟩
 exact key caps cs.toList hc hcs
section
variable{P:Program}{k:Nat}{Q:Post}{env:List AV}{s:ij}
theorem Vd{α σ β:Type}[Inhabited α]{f:Nat×σ->Option ((Nat×σ)⊕β)}{s0:σ}{b:β}(hb:iw f (0,s0)=some b){g:Operand}{p1 p2:Nat}{x y:ie}{gf:Nat}{caps:List AV}{e1 e2:α->D}{xs:List α}
 (it:Iter P gf caps (xs.map fun x=>[e1 x,e2 x])) (K:Nat) (S:σ->ij) (hw:iL k env s env (S s0))
 (round:∀j p t,j<xs.length->f (j,p)=some t->(∀b',t=.inr b'->b'=b)->
  rj P K x (xD (rj P K y (Et K env S (fun p'=>t=.inl (j+1,p')) Q)) fun _ _ _=>False) (oF env [(p1,.d (e1 (xs.getD j default))),(p2,.d (e2 (xs.getD j default)))]) (S p))
 (done:∀p t,f (xs.length,p)=some t->(∀b',t=.inr b'->b'=b)->Q .normal env (S p))
 (hg:ev env g=.fn gf [] caps:=by rfl) (hK:k<=K:=by omega) (hfix:AV.i_ (vD K) env=env:=by rfl) (hflat:(x.flat&&y.flat)=true:=by rfl):nj P k (.Es g [p1,p2] x y) Q env s:=by
 rw[bu]at hflat;have hget:∀i,i<xs.length->(xs.map fun x=>[e1 x,e2 x]).getD i []=[e1 (xs.getD i default),e2 (xs.getD i default)]:=fun i hi=>by simp[ay,bt,aB hi]
 refine I9 hb K hK hfix hflat hg it (fun i hi=>?_) S hw (fun j p t hj ht hbt=>?_) (fun p t ht hbt=>done p t (by rwa [aM]at ht) hbt)
 ·rw[aM]at hi;rw[hget i hi];rfl
 ·rw[aM]at hj;rw[hget j hj];refine(gZ (round j p t hj ht hbt)).mono fun e env' s' hq=>?_
  cases e with
  |normal=>exact gZ hq
  |_=>exact hq
theorem Vc{α σ β:Type}[Inhabited α]{f:Nat×σ->Option ((Nat×σ)⊕β)}{s0:σ}{b:β}(hb:iw f (0,s0)=some b){g:Operand}{p1:Nat}{x y:ie}{gf:Nat}{caps:List AV}{e1:α->D}{xs:List α}
 (it:Iter P gf caps (xs.map fun x=>[e1 x])) (K:Nat) (S:σ->ij) (hw:iL k env s env (S s0))
 (round:∀j p t,j<xs.length->f (j,p)=some t->(∀b',t=.inr b'->b'=b)->
  rj P K x (xD (rj P K y (Et K env S (fun p'=>t=.inl (j+1,p')) Q)) fun _ _ _=>False) (oF env [(p1,.d (e1 (xs.getD j default)))]) (S p))
 (done:∀p t,f (xs.length,p)=some t->(∀b',t=.inr b'->b'=b)->Q .normal env (S p))
 (hg:ev env g=.fn gf [] caps:=by rfl) (hK:k<=K:=by omega) (hfix:AV.i_ (vD K) env=env:=by rfl) (hflat:(x.flat&&y.flat)=true:=by rfl):nj P k (.Es g [p1] x y) Q env s:=by
 rw[bu]at hflat;have hget:∀i,i<xs.length->(xs.map fun x=>[e1 x]).getD i []=[e1 (xs.getD i default)]:=fun i hi=>by simp[ay,bt,aB hi]
 refine I9 hb K hK hfix hflat hg it (fun i hi=>?_) S hw (fun j p t hj ht hbt=>?_) (fun p t ht hbt=>done p t (by rwa [aM]at ht) hbt)
 ·rw[aM]at hi;rw[hget i hi];rfl
 ·rw[aM]at hj;rw[hget j hj];refine(gZ (round j p t hj ht hbt)).mono fun e env' s' hq=>?_
  cases e with
  |normal=>exact gZ hq
  |_=>exact hq
end
theorem mf{P:Program}{f:Nat}{mc:ie}{n:Nat}{rs:List tc}{fn:Func}(h1:P.funcs[f]?=some fn)(h3:fn.ntmps=n)(h2:fn.body.bind (mW P)=some mc.erase:=by kernel_rfl)
 (h4:fn.results.toList.mapM (xR P)=some rs:=by kernel_rfl):kH P f mc n rs:=⟨fn,h1,h2,h3,h4⟩
section
variable{α γ:Type}{P:Program}{k0 f:Nat}{args env:List AV}{s:ij}{d:Option Nat}{R:List AV->ij->Prop}{x:Option α}{β:Type}{K:α->Option β}{r:β}{q:α->Prop}
end
attribute [go_sem] List.set_cons_zero List.set_cons_succ
attribute [go_sem] ne_eq not_false_eq_true
section
variable{α γ:Type}[Inhabited α]{f:α->D}{f':γ->D}{e e' n k0:Nat}{s:ij}{env:List AV}{xs:List α}{y y':α}{ys:List γ}{i k:Nat}
end
attribute [go_sem] Sum.elim_inl Sum.elim_inr
section
variable{P:Program}{k0 f:Nat}{args env:List AV}{s:ij}{d:Option Nat}{R:List AV->ij->Prop}
theorem CA{α1 α2 β:Type}{x:Option (α1⊕α2)}{K1:α1->Option β}{K2:α2->Option β}{r:β}{q1:α1->Prop}{q2:α2->Prop}(pr nw:List gF){dz:List AV}{s1:ij}{t1:α1->ij}{t2:α2->ij}{y1:α1->AV}{y2:α2->AV}[i:iR x fun a=>iC P f dz s1 pr.length fun x s'=>x=Sum.elim y1 y2 a/\s'=Sum.elim t1 t2 a]
 (h:Qg x (Sum.elim K1 K2) r) (hk1:∀a,x=some (.inl a)->K1 a=some r->q1 a) (hk2:∀a,x=some (.inr a)->K2 a=some r->q2 a)
 (e1:∀a,R (iU d env ((y1 a).kV (mh (pr++nw)))) (qo s (t1 a) (pr++nw) (pr++nw))=q1 a:=by intro a;first|((conv=>lhs;simp(maxSteps:=1000000) (disch:=omega)only[go_sem,k_,kY,mI,mH,bF,aW,bp,Nat.reduceAdd,Nat.reduceSub,Nat.reduceLeDiff,Nat.reduceEqDiff,Nat.reduceLT,Int.reduceToNat,reduceIte,reduceCtorEq])<;>rfl)|rfl)
 (e2:∀a,R (iU d env ((y2 a).kV (mh (pr++nw)))) (qo s (t2 a) (pr++nw) (pr++nw))=q2 a:=by intro a;first|((conv=>lhs;simp(maxSteps:=1000000) (disch:=omega)only[go_sem,k_,kY,mI,mH,bF,aW,bp,Nat.reduceAdd,Nat.reduceSub,Nat.reduceLeDiff,Nat.reduceEqDiff,Nat.reduceLT,Int.reduceToNat,reduceIte,reduceCtorEq])<;>rfl)|rfl)
 (h1:pr.map (·.1)=List.range pr.length:=by rfl) (h2:((pr++nw).map (·.1)).Nodup:=by decide) (h3:((pr++nw).map (·.2)).Nodup:=by decide)
 (h4:∀p∈nw,sat s p.2=.dead/\k0<=p.2:=by simp[sat]) (ha:iS (args.map fun x=>x.kV (oz pr)) dz:=by exact mT) (hs:kN (lS s pr pr) s1:=by exact mT):lM P k0 f args env s d R:=by
 obtain⟨a,g1,g2⟩:=bind_some h;cases a with
 |inl a=>exact AI pr nw (i.c g1) h1 h2 h3 h4 ha hs ((e1 a).symm▸hk1 a g1 g2)
 |inr a=>exact AI pr nw (i.c g1) h1 h2 h3 h4 ha hs ((e2 a).symm▸hk2 a g1 g2)
end
theorem II{l:List AV}{c x:AV}{n:Nat}:(c::l).getD (1+n) x=l.getD n x:=by rw[cN];rfl
theorem Jw{l:List AV}{c:AV}{n:Nat}:List.take (1+n) (c::l)=c::List.take n l:=by rw[cN];rfl
attribute [go_sem] II Jw
theorem CH{α:Type}{f:α->D}{xs:List α}{i:Nat}{a c:AV}{v:α}(h:i<xs.length)(hle:AV.le a (.d (f v))):
 iS (c::(List.map (aD f) (List.take i xs)++[a]++List.map (aD f) (List.drop (1+i) xs))) (c::(xs.set i v).map (aD f)):=by
 rw[cN 1 i];exact⟨AV.le_refl _,G8 h hle⟩
def M5(K:Nat)(Q:Post)(e:Exit)(env env':List AV)(s':ij):Prop:=∃s'',(∃env'',iL K env' s' env'' s'')/\Q e env s''
theorem M5.of{K:Nat}{Q:Post}{e:Exit}{env env' env'':List AV}{s' s2:ij}(hw:iL K env' s' env'' s2)(h:Q e env s2):M5 K Q e env env' s':=⟨s2,⟨_,hw⟩,h⟩
section
variable{P:Program}{k:Nat}{Q:Post}{env:List AV}{s:ij}
theorem Vx{ι:Type}{K:Nat}{env env':List AV}{s':ij}{S:ι->ij}{next:ι->Prop}:Et K env S next Q .ret env' s'=M5 K Q .ret env env' s':=(rfl)
end
attribute [go_sem] Vx
theorem Oc{α:Type}{n:Nat}{xs:List α}:LD n xs.length=(List.take n xs).length:=(cg).symm
theorem N_{α:Type}{f:α->D}{e n:Nat}[wC f e]{xs:List α}:Q_ n e (kP f xs)=kP f (List.take n xs):=by
 unfold Q_;induction xs generalizing n with
 |nil=>simp[kP]
 |cons x xs ih=>
  cases n with
  |zero=>simp[kP]
  |succ n=>rw[cH,sC,sC,Nat.succ_mul,cN,List.take_append,bL (by rw[wC.len (f:=f)];omega),wC.len (f:=f),dM,ih]
attribute [go_sem] Oc N_
section
variable{E:Ending->Value->Prop}{P:Program}{f:Nat}
theorem pG.args{args dz:List AV}{s:ij}{k:Nat}{R:AV->ij->Prop}(h:pG E P f dz s k R)(hl:iS args dz):pG E P f args s k R:=
 fun C vs h1 h2 h3 h4=>h C vs h1 h2 h3 (hl.iK h4)
theorem pG.Uh{dz:List AV}{s s1:ij}{k:Nat}{R:AV->ij->Prop}(h:pG E P f dz s1 k R)(hs:kN s s1):pG E P f dz s k R:=fun C vs h1 h2 h3 h4=>by
 subst h1;have hs':=hs.sat;obtain⟨h5,h6⟩:=h3.told hs';refine(h {C with s:=s1} vs rfl h2 ((Inv.ctx hs').1 h5) (by
  show AV.iK C.β (Ctx.ir {C with s:=s1} C.β s1) C.w dz vs.toList;have:Ctx.ir {C with s:=s1} C.β s1=C.ir C.β C.s:=h6;rw[this];exact h4)).mono fun e w' ⟨v,x,β',s',e1,e2,e3,e4⟩=>⟨v,x,β',s',e1,(Inv.ctx hs').2 e2,e3,e4⟩
end
def By{α1 α2:Type}(pv:Value)(P:Program)(f:Nat)(args:List AV)(s:ij)(k:Nat)(y1:α1->AV)(t1:α1->ij)(t2:α2->ij)(a:α1⊕α2):Prop:=
 pG (XE pv) P f args s k fun x s'=>x=Sum.elim (fun a=>.mj [y1 a,okB true]) (fun _=>.mj [okB false,okB false]) a/\s'=Sum.elim t1 t2 a
theorem pG.done{E:Ending->Value->Prop}{P:Program}{f:Nat}{args:List AV}{s:ij}{k:Nat}{y:AV}{t:ij}(h:pG E P f args s k fun x s'=>jw k x s' y t):pG E P f args s k fun x s'=>x=y/\s'=t:=fun C vs h1 h2 h3 h4=>
 (h C vs h1 h2 h3 h4).mono fun _ w' ⟨v,_,β',_,e1,e2,e3,e4⟩=>let⟨β2,h5,h6⟩:=e4 C β' w' v h2 e2 e3;⟨v,y,β2,t,e1,h5,h6,rfl,rfl⟩
theorem kH.SH{pv:Value}{P:Program}{f:Nat}{mc:ie}{n:Nat}{rs:List tc}(h:kH P f mc n rs){args:List AV}{s:ij}{k:Nat}{α1 α2:Type}{y1:α1->AV}{t1:α1->ij}{t2:α2->ij}{a:α1⊕α2}
 (hm:nj P k mc (GJ pv rs fun x s'=>jw k x s' (Sum.elim (fun a=>.mj [y1 a,okB true]) (fun _=>.mj [okB false,okB false]) a) (Sum.elim t1 t2 a)) (args++List.replicate (n-args.length) .ig) s):
 By pv P f args s k y1 t1 t2 a:=pG.done (h.VY hm)
theorem sE.call{α1 α2 β:Type}{x:Option (α1⊕α2)}{K1:α1->Option β}{K2:α2->Option β}{r:β}{pv:Value}{P:Program}{k0:Nat}{Q:Post}{d:Option Nat}{f:Nat}{args:List Operand}{env:List AV}{s:ij}(pr nw:List gF){dz:List AV}{s1:ij}{t1:α1->ij}{t2:α2->ij}{y1:α1->AV}
 [i:iR x fun a=>By pv P f dz s1 pr.length y1 t1 t2 a] (h:Qg x (Sum.elim K1 K2) r)
 (hk1:∀a,x=some (.inl a)->K1 a=some r->Q .normal (iU d env ((y1 a).kV (mh (pr++nw)))) (qo s (t1 a) (pr++nw) (pr++nw)))
 (hk2:∀a,x=some (.inr a)->K2 a=some r->Q (YT pv) env (qo s (t2 a) (pr++nw) (pr++nw)))
 (h1:pr.map (·.1)=List.range pr.length) (h2:((pr++nw).map (·.1)).Nodup) (h3:((pr++nw).map (·.2)).Nodup)
 (h4:∀p∈nw,sat s p.2=.dead/\k0<=p.2) (ha:iS ((args.map (ev env)).map fun x=>x.kV (oz pr)) dz) (hs:kN (lS s pr pr) s1):sE P k0 pv Q ⟨d,.kA f args,none⟩ env s:=by
 obtain⟨a,g1,g2⟩:=bind_some h;refine⟨pr,nw,_,h1,h2,h3,h4,(pG.Uh (i.c g1) hs).args ha,fun x s' ⟨e1,e2⟩=>?_⟩;subst e1 e2;cases a with
 |inl a=>
  refine⟨(y1 a).kV (mh (pr++nw)),true,?_,fun _=>hk1 a g1 g2,fun e=>by cases e⟩;simp only[dP,AV.kV,AV.i_,okB]
 |inr a=>
  refine⟨okB false,false,?_,fun e=>Bool.noConfusion e,fun _=>hk2 a g1 g2⟩;simp only[d_,AV.kV,AV.i_,okB]
theorem sE.Eb{pv:Value}{P:Program}{k0:Nat}{Q:Post}{x:Operand}{env:List AV}{s:ij}{t:Nat}{u:Value}(hx:ev env x=.d (.lit (.iface t u)))(hp:pv=.iface t u)(h:Q (YT pv) env s):sE P k0 pv Q ⟨none,.Eb x,none⟩ env s:=by
 subst hp;exact⟨hx,⟨t,u,rfl⟩,h⟩
section
variable{P:Program}{k:Nat}{Q:Post}{env:List AV}{s:ij}{K:List AV->ij->Prop}{pv:Value}
theorem UT{rs:List tc}{R:AV->ij->Prop}:GJ pv rs R .normal env s=wo env s rs fun xs=>R (.mj [tP xs,okB true]) s:=(rfl)
theorem UU{rs:List tc}{R:AV->ij->Prop}:GJ pv rs R .ret env s=wo env s rs fun xs=>R (.mj [tP xs,okB true]) s:=(rfl)
attribute [go_sem] UT UU okB
def Ly(ms:List iJ)(after:List gP)(pv:Value)(P:Program)(k:Nat)(Q:Post)(m0:iJ)(acc:List (List Nat×List Nat))(env:List AV)(s:ij):Prop:=vB ms after acc.reverse=true/\sE P k pv Q m0 env s
theorem Ly.of{ms:List iJ}{af:List gP}{m0:iJ}{acc:List (List Nat×List Nat)}(h1:vB ms af acc.reverse=true)(h2:sE P k pv Q m0 env s):Ly ms af pv P k Q m0 acc env s:=⟨h1,h2⟩
theorem Ry{ms:List iJ}{m0:iJ}{after:List gP}(pv:Value)(hP:P.follows .mixedOrders=true)(hg0:m0.guard=none)
 (hlast:((List.range ms.length).all fun i=>((Gw after).getD ms.length []).contains i)=true) (h:uV P k (Ly ms after pv P k Q m0) ms [] env s):nj P k (.draw (ms++[m0]) after) Q env s:=Rz pv hP hg0 hlast h
theorem Fq{rs:List tc}{R:AV->ij->Prop}(h:R (.mj [okB false,okB false]) s):GJ pv rs R (YT pv) env s:=⟨rfl,h⟩
end
theorem iC.Vm{P:Program}{f:Nat}{args:List AV}{s:ij}{k:Nat}{R:AV->ij->Prop}(j id t e:Nat){e0:Nat}(hd:sat s id=.dead)(hj:args[j]?=some (.d (.sl e0 (some true) [])))
 (h:iC P f (args.set j (.own e id [])) (sset s id (.tok t e 0)) (k+1) R) (hid:k<=id:=by decide):iC P f args s k R:=fun C vs h1 h2 h3 h4=>by
 subst h1;subst h2;have hst:St C C.β [] C.s {tmps:=#[],defers:=[]} C.w:=⟨.nil,h3,rfl,fun i x hx=>by simp at hx⟩;obtain⟨g1,m⟩:=hst.D2 (id:=id) (t:=t) (e:=e) hd;have hI:=g1.inv;let C2:Ctx:={C with β:=iy C.β id (.tok tQ 0),s:=sset C.s id (.tok t e 0),w:=C.w,k:=C.k+1};have hI2:Inv C2 C2.β C2.s C2.w:=hI.here (K:=C.k+1);have hargs:AV.iK C2.β (C2.ir C2.β C2.s) C2.w (args.set j (.own e id [])) vs.toList:=by
  refine FK hj (fun v hv=>?_) (m.iK h4);simp only[AV.ok]at hv;rw[DK hv];exact CM (by simp[C2,iy])
 refine(h C2 vs rfl rfl hI2 hargs).mono fun e w' ⟨v,x,β',s',e1,e2,e3,e4⟩=>⟨v,x,β',s',e1,?_,e3,e4⟩
 exact hI.back e2 (gi _)
theorem Oi{P:Program}{l:Nat}{pre post:List iJ}{d q0:Nat}{want:Bool}{g:Operand}{args:List Operand}{Q:tI}{env:List AV}{x:List D}{r:List (List D)}
 (hpre:ue P 0 pre env [] (fun env' s'=>∃env1,iL 0 env' s' env1 []/\AV.i_ (fun _=>none) env1=env1/\ev env1 g=.d (.lit (.func (.yield l) #[] #[]))/\args.map (ev env1)=x.map .d/\env1.getD q0 .ig=.d (.lit (.bool want))/\
  ∀b,ue P 0 post (env1.set d (.d (bD b))) [] (fun env' s'=>∃env2,iL 0 env' s' env2 []/\AV.i_ (fun _=>none) env2=env2/\Q .normal env2 (if b then some r else none)))):
 Cr P l (.h_ (pre++⟨some d,.ng g args,some (some q0,want)⟩::post)) Q env (some (x::r)):=fun c hc els J Jx hJ n X a W hst hl=>by
 obtain⟨rid,ops,rfl,mops⟩:=A0 (ms:=(pre++⟨some d,.ng g args,some (some q0,want)⟩::post).map iJ.erase) hc;have hlen:ops.size=pre.length+(1+post.length):=by
  have:=(vF mops).1;simp at this;omega
 obtain⟨t1,t2⟩:=xl pre.length mops;have e1:(List.map iJ.erase (pre++⟨some d,.ng g args,some (some q0,want)⟩::post)).take pre.length=pre.map iJ.erase:=by rw[aR];exact ei (by simp)
 have e2:(List.map iJ.erase (pre++⟨some d,.ng g args,some (some q0,want)⟩::post)).drop pre.length=(⟨some d,.ng g args,some (some q0,want)⟩::post).map iJ.erase:=by rw[aR];exact List.drop_left' (by simp)
 rw[e1]at t1;rw[e2]at t2;obtain⟨t3,t4⟩:=xl 1 t2;rw[List.drop_drop]at t4;simp only[aP,cH,dJ,fF,bF]at t3 t4;have hlt:pre.length<ops.toList.length:=by simp;omega
 rw[aA hlt]at t3;simp only[cH,dJ,cr,List.mapM_nil,cp,dB,au,aJ]at t3;obtain⟨m0,q6,_,rfl,q6'⟩:=t3;simp only[bT,and_true]at q6';subst q6';have g6:ops[pre.length]?=some ops.toList[pre.length]:=by simp at hlt;simp[hlt]
 generalize ops.toList[pre.length]=o6 at q6 g6;obtain⟨p6,d6,gd6⟩:=uo q6;have hmo6:ku P o6=some (.ng g args):=by
  cases hq:ku P o6 with
  |some y=>rw[hq]at p6;rw[show y=sJ.ng g args from p6.symm]
  |none=>rw[hq]at p6;cases p6
 obtain⟨cl,hop6,hcal,hargs6⟩:=Dh hmo6;obtain⟨j6,hgd6,hj6⟩:∃j,o6.guard=some (j,want)/\(ops[j]?).bind (·.dst)=some q0:=by
  cases hq:o6.guard with
  |none=>rw[hq]at gd6;cases gd6
  |some x=>
   rw[hq]at gd6;simp only[iJ.erase,aK,aJ,dS]at gd6;exact⟨x.1,by rw[gd6.2],gd6.1.symm⟩
 have hdst6:o6.dst=some d:=d6.symm;obtain⟨hn,hdr,hJn⟩:=hl;have hnl:n<els.length:=by
  rcases cI n els.length with h|h
  ·exact h
  ·rw[bG h]at hdr;cases hdr
 have hx:els.getD n []=x/\els.drop (n+1)=r:=by
  rw[aA hnl]at hdr;simp only[bT]at hdr;exact⟨by rw[ay,aB hnl];exact hdr.1,hdr.2⟩
 refine wpIn_region ?_;rw[hlen,dG];refine zl (C:=wN X W) (m:=1+post.length) pre.length 0 pre _ [] (by rw[hlen];omega) (by rw[bF];exact t1) hpre _ a W hst fun β' env' s' a4 W4 hst4 hK0=>?_
 obtain⟨env4,hw4,hid4,hyv4,hargs4,hq4,hpost⟩:=hK0;obtain⟨β4,hst4'⟩:=hw4 (wN X W) β' a4 W4 rfl hst4;have hg4:W.grownBy W4 none:=wN.grown hst4.inv;have hst5:=hst4'.again (W2:=W4) (X:=X) (Ext.refl _) hid4 (fun b o h=>ct (hst.inv.low b o h).1 hg4.size) (fun b o v h h'=>⟨h,h'⟩);have hJ4:=hJ.jn _ _ _ _ hJn hg4;rw[bU,show 1+post.length=post.length+1 by omega,dL];rw[wpOpsIn];rw[g6];simp only;have hwant:Region.wanted o6 (yielded ops a4.tmps)=true:=by
  simp only[Region.wanted,hgd6];rw[Bj hst5 hj6 hq4];simp
 rw[ah hwant];refine⟨fun _ _=>trivial,?_⟩;have hnd:∀c,o6.op≠ .defer c:=by rw[hop6];simp
 have hyv:a4.eval g=.func (.yield l) #[] #[]:=by
  have:=hst5.ev g;rw[hyv4]at this;exact qf this
 rw[er _ _ _ hnd,Fb (l:=l) hop6 hcal hyv];have hoks:AV.iK (fun _=>.no) X W4 ((els.getD n []).map .d) (cl.args.map a4.eval).toList:=by
  have:=Ai hst5 args;rw[hargs4,wN.ir]at this;rw[hx.1,dy,hargs6];exact this
 obtain⟨fn',tmps',dz',bd',hy,hR⟩:=hJ.round n X W4 _ hnl hJ4 hoks;rw[hy,Oper.uponIn_round];refine⟨(fun h=>by cases h),RoundIn.mono hR ?_⟩;rintro e5 W5 ⟨X5,hres5,hX5,hk5⟩;obtain⟨bb,rfl,hJ5⟩:∃bb,e5=.returned (.bool bb)/\Live els J Jx (n+1) X5 W5 (if bb then some r else none):=by
  rcases hres5 with⟨h1,h2⟩|⟨h1,h2⟩
  ·exact⟨true,h1,hnl,hx.2,h2⟩
  ·exact⟨false,h1,n,hnl,h2⟩
 show wpOpsIn Fence.wide 0 P ops _ (List.range' (pre.length+1) post.length) (a4.put o6.dst (.bool bb)) W5;rw[hdst6];have hst6:St (wN X5 W5) (fun _=>.no) (env4.set d (.d (bD bb))) [] (a4.put (some d) (.bool bb)) W5:=
  (hst5.again (Ext.refl _) hid4 hX5 hk5).put (x:=.d (bD bb)) (v:=.bool bb) (by simp[AV.ok,bD,D.ok,one]) (some d)
 have:=zl (C:=wN X5 W5) (Q:=fun e a' W'=>∃n' X' env' r',St (wN X' W') (fun _=>.no) env' [] a' W'/\Live els J Jx n' X' W' r'/\Q e env' r') (m:=0) post.length (pre.length+1) post _ [] (by rw[hlen];omega) (by rw[bL (by simp;omega)];exact t4) (hpost bb) _ _ W5 hst6 fun β' env' s' a7 W7 hst7 hK0=>?_
 ·rw[dD]at this;exact this
 obtain⟨env7,hw7,hid7,hQ7⟩:=hK0;obtain⟨β7,hst7'⟩:=hw7 (wN X5 W5) β' a7 W7 rfl hst7;have hg7:W5.grownBy W7 none:=wN.grown hst7.inv;have hst8:=hst7'.again (W2:=W7) (X:=X5) (Ext.refl _) hid7 (fun b o h=>ct (hX5 b o h) hg7.size) (fun b o v h h'=>⟨h,h'⟩);exact⟨n+1,X5,env7,_,hst8,hJ5.grow hJ hg7,hQ7⟩
def AV.R5(id:Nat)(ds:List D):AV->AV
 |.ptr j off=>if j=id then .pv (ds.drop off)else .ptr j off
 |x=>x.kV (iM id)
theorem iL.R5{k:Nat}{env:List AV}{s:ij}(id:Nat){t:Nat}{ds:List D}(hid:k<=id)(ho:sat s id=.obj t (ds.map .d)):iL k env s (env.map (AV.R5 id ds)) (jz id s):=fun C β a w hC hst=>by
 subst hC;have hi:=hst.inv;have hob:=hi.obs id;rw[ho]at hob;obtain⟨b,us,hb,hh,hone,pre,rst,hus,hpre⟩:=hob;have h2:=hi.kill id hid;have hblk:ic β s id b:=by unfold ic;rw[ho];exact hb
 have hnot:∀o,¬C.ir (iy β id .no) (jz id s) b o:=fun o hq=>by
  rcases hq with hq|hq
  ·have h1:=hi.low b o hq;have hown:own β s b o:=⟨id,by rw[ho];exact hb⟩;rcases hi.pO b o hown with h3|h3
   ·exact h1.2 h3
   ·omega
  ·obtain⟨j,hj⟩:=hq.block;have hj1:=tg hj;have hji:j≠id:=fun e=>by subst e;unfold ic at hj;rw[qb,ah rfl]at hj;exact hj
   exact hji (hi.inj j id b hj1 hblk)
 have dm:∀{x:D}{u:Value},D.ok (C.ir β s) w x u->D.ok (C.ir (iy β id .no) (jz id s)) w x u:=fun{x u} hx=>D.iY (fun b o v hc hn'=>⟨hc,fun h=>hn' (h.imp (fun x=>x) uB)⟩) _ _ hx
 refine⟨_,hst.defers,h2,by rw[aM];exact hst.len,fun i x hx=>?_⟩;rw[bt]at hx;obtain⟨y,hy,rfl⟩:=az.1 hx;have hyo:=hst.env i y hy;have gen:∀z:AV,(∀j off,z≠ .ptr j off)->AV.R5 id ds z=z.kV (iM id):=fun z hz=>by
  cases z<;>first|rfl|exact absurd rfl (hz _ _)
 by_cases hp:∃j off,y=.ptr j off
 ·obtain⟨j,off,rfl⟩:=hp;simp only[AV.R5];by_cases hj:j=id
  ·subst hj;rw[ah rfl];simp only[AV.ok]at hyo;obtain⟨b2,hb2,hv⟩:=hyo;rw[hb]at hb2;cases hb2;rw[hv];have hl:=AV.iP hpre;have hp2:=(AV.jD.1 hpre).2;refine⟨b,off,pre.drop off,rfl,fun q u hq=>?_,?_⟩
   ·rw[cE]at hq;have hq2:us.toList[off+q]?=some u:=by rw[hus,aZ (aO.1 hq).1];exact hq
    refine⟨?_,hnot _,hone u (bO hq2)⟩;simp only[World.cell?,hh,cC,aj,aE];simpa using hq2
   ·refine D.jD.2 ⟨by simp at hl;simp[hl],fun q x u hx hu=>?_⟩;rw[cE]at hx hu;have hu2:us.toList[off+q]?=some u:=by rw[hus,aZ (aO.1 hu).1];exact hu
    refine⟨hone u (bO hu2),?_⟩;have:=hp2 (off+q) (.d x) u (by rw[bt,hx];rfl) hu;simp only[AV.ok]at this;exact dm this
  ·rw[ak hj];have:=vc (id:=id) hyo;simpa only[AV.kV,iM,ak hj]using this
 ·rw[gen y fun j off e=>hp ⟨j,off,e⟩];exact vc hyo
section
variable{id:Nat}{ds:List D}
theorem OX:AV.R5 id ds .ig=.ig:=(rfl)
theorem YX{x:D}:AV.R5 id ds (.d x)=.d x:=(rfl)
theorem Vt{xs:List D}:AV.R5 id ds (.pv xs)=.pv xs:=(rfl)
theorem R7{j off:Nat}:AV.R5 id ds (.ptr j off)=if j=id then .pv (ds.drop off)else .ptr j off:=(rfl)
end
attribute [go_sem] OX YX Vt R7 jz
theorem Ve{P:Program}{k:Nat}{Q:Post}{env:List AV}{s:ij}{x:ie}(ws:List Nat)(h:nj P k x Q (qm env ws) s)(hw:iL k env s (qm env ws) s:=by(try dsimp only);exact wk):nj P k x Q env s:=Vh hw h
theorem Og{P:Program}{ρ:Go.Shelf.Ren}(L:Go.Proofs.Lays8.n4 P ρ){i0:TypeInfo}{z:Value}(hi0:P.info? (ρ.t 25)=some i0)(hz0:i0.zero=some z)(hs0:0<i0.size)(hb0:0<i0.bytes)
 (hz1:z.cells.size=i0.size) (hz2:∀v∈z.cells.toList,one v=true) {n:Int} (h0:0<=n) (hb:n*i0.bytes<=140737488355328):
 iC P (ρ.f 4) [.d (.sl 0 (some true) []),.d (iD n)] [] 0 fun x s'=>x=.own i0.size 0 []/\s'=[(0,.tok (ρ.t 25) i0.size 0)]:=fun C vs hs hk hinv hargs=>by
 obtain⟨m,rfl⟩:=fl h0;have hst:St C C.β [] C.s {tmps:=#[],defers:=[]} C.w:=⟨.nil,hinv,rfl,fun i x hx=>by simp at hx⟩;have hvs:vs=#[.slice none 0 0,.int .i64 m]:=by
  simp only[AV.iK,AV.ok]at hargs;obtain⟨v,r,h1,h2,v2,r2,h3,h4,h5⟩:=hargs;have h2:=DK h2;have h4:=qf (β:=C.β) (O:=C.ir C.β C.s) (w:=C.w) (by simp only[AV.ok];exact h4);subst h2 h4 h5 h3;exact cz (by simpa[tQ]using h1)
 subst hvs;have hd:sat C.s 0=.dead:=by rw[hs];rfl
 rcases fI m with rfl|hm
 ·refine(Go.Proofs.Any8.slices_Grow_room L none 0 0 0 C.w (aF _) gY gY gY).mono ?_;rintro e w' ⟨rfl,rfl⟩;obtain⟨h1,_⟩:=hst.D2 (id:=0) (t:=ρ.t 25) (e:=i0.size) hd;rw[hs]at h1;exact⟨_,.own i0.size 0 [],_,_,rfl,h1.inv,CM (by simp[iy]),rfl,rfl⟩
 ·have hmb:m*i0.bytes<=140737488355328:=by
   have:((m*i0.bytes:Nat):Int)<=140737488355328:=by simpa using hb
   omega
  have hm47:m<=140737488355328:=cw (cV _ hb0) hmb;refine(Go.Proofs.Any8.slices_Grow_grow L i0 z hi0 hz0 hs0 none 0 0 m [] C.w (aF _) gY (by simpa using hmb) gY (by simp) (by simp) (by simp)).mono ?_;rintro e w' ⟨rfl,rfl⟩;have hcap1:=grownCap_ge C.w (0+m) 0 (ρ.t 25);have hcap2:=eY C.w (0+m) 0 (ρ.t 25) (by unfold Go.maxLen;omega);obtain⟨β',h1,h2⟩:=xU hst.drew (id:=0) (t:=ρ.t 25) (e:=i0.size) (n:=0) (cap:=grownCap C.w (0+m) 0 (ρ.t 25))
   (c:=([]:List Value).toArray++Builtin.zeroCells z.cells (0+m-0)++Builtin.zeroCells z.cells (grownCap C.w (0+m) 0 (ρ.t 25)-(0+m))) (xs:=[])
   (by have:=hst.inv.obs 0;rw[hd]at this;rw[show C.β 0=.no from this];trivial)
   (by
    rw[dY,dY,fG,fG,hz1];simp only[dF,bN,bU,Nat.sub_zero];rw[<-bY];congr 1;simp only[bU]at hcap1;omega)
   (cZ _) (by unfold Go.maxLen at hcap2;omega)
   (fun v hv=>by
    simp only[Array.toList_append,aN]at hv;rcases hv with(hv|hv)|hv
    ·simp at hv
    ·exact rP hz2 _ v hv
    ·exact rP hz2 _ v hv)
   rfl (fun _ _ _ _=>by simp[D.row])
  rw[hs]at h1 h2;exact⟨_,.own i0.size 0 [],β',_,rfl,h1.inv,h2,rfl,rfl⟩
end mm
