/- A part of the proof about FnExactTwoProof (LaShal, LaLend, LaDeep, LaSplit, LaIter, LaPriv, LaThaw, Grow). -/
import Derived.Test.YtjgbnaihpicpgabGreatTb
import Derived.KernelRfl
import Derived.Shelf.Spec.SlicesGrow
set_option linter.all false
noncomputable section
namespace oq
open Go
def DL(x y:D):Prop:=∀O w v,D.ok O w x v->D.ok O w y v
def Z2:List D->List D->Prop
 |[],[]=>True
 |x::xs,y::ys=>DL x y/\Z2 xs ys
 |_,_=>False
theorem DL.refl(x:D):DL x x:=fun _ _ _ h=>h
theorem DL.forget{e:Nat}{nl:Option Bool}{xs:List D}:DL (.sl e nl xs) (.sl e none xs):=fun _ _ _ h=>by
 simp only[D.ok]at h⊢;obtain⟨a,cap,h1,h2,_,h4⟩:=h;exact⟨a,cap,h1,h2,trivial,h4⟩
theorem DL.nil{e e':Nat}{nl:Option Bool}:DL (.sl e nl []) (.sl e' none []):=fun _ _ _ h=>by
 simp only[D.ok]at h⊢;obtain⟨a,cap,h1,h2,_,h4⟩:=h;exact⟨a,cap,h1,h2,trivial,by simp⟩
theorem Z2.jk{O:Own}{w:World}:∀{xs ys:List D}{vs:List Value},Z2 xs ys->D.jk O w xs vs->D.jk O w ys vs
 |[],[],_,_,h=>h
 |_::_,_::_,_,hl,h=>by
  simp only[D.jk]at h⊢;obtain⟨v,r,h1,h2,h3,h4⟩:=h;exact⟨v,r,h1,h2,hl.1 _ _ _ h3,Z2.jk hl.2 h4⟩
 |[],_::_,_,hl,_=>hl.elim
 |_::_,[],_,hl,_=>hl.elim
theorem DL.agg{xs ys:List D}(h:Z2 xs ys):DL (.agg xs) (.agg ys):=fun _ _ _ hv=>by
 simp only[D.ok]at hv⊢;obtain⟨vs,h1,h2⟩:=hv;exact⟨vs,h1,h.jk h2⟩
theorem AV.AP{x y:D}(h:DL x y):AV.le (.d x) (.d y):=fun _ _ _ _ hv=>by simp only[AV.ok]at hv⊢;exact h _ _ _ hv
theorem AV.Wt{e id:Nat}{xs:List D}{y:D}(h:DL (.sl e none xs) y):AV.le (.own e id xs) (.d y):=fun _ _ _ _ hv=>by simp only[AV.ok]at hv⊢;exact h _ _ _ hv.1
theorem AV.CP{xs ys:List AV}(h:ju xs ys):AV.le (.agg xs) (.agg ys):=fun _ _ _ _ hv=>by
 simp only[AV.ok]at hv⊢;obtain⟨vs,h1,h2,h3⟩:=hv;exact⟨vs,h1,h2,h.jk h3⟩
theorem DM{β:i_}{O:Own}{w:World}:∀{ys:List D}{vs:List Value},(∀u∈vs,one u=true)->AV.jk β O w (ys.map .d) vs->D.jk O w ys vs
 |[],_,_,h=>by simpa[AV.jk,D.jk]using h
 |y::ys,vs,h1,h=>by
  simp only[aK,AV.jk,D.jk]at h⊢;obtain⟨v,r,rfl,h2,h3⟩:=h;exact⟨v,r,rfl,h1 v (by simp),by simpa[AV.ok]using h2,DM (fun u hu=>h1 u (by simp[hu])) h3⟩
theorem AV.zC{xs:List AV}{ys:List D}(h:ju xs (ys.map .d)):AV.le (.agg xs) (.d (.agg ys)):=fun _ _ _ _ hv=>by
 simp only[AV.ok,D.ok]at hv⊢;obtain⟨vs,h1,h2,h3⟩:=hv;exact⟨vs,h1,DM h2 (h.jk h3)⟩
theorem AV.BE{xs ys:List AV}(h:ju xs ys):AV.le (.kZ xs) (.kZ ys):=fun _ _ _ _ hv=>by
 simp only[AV.ok]at hv⊢;obtain⟨vs,h1,h3⟩:=hv;exact⟨vs,h1,h.jk h3⟩
theorem My{e e':Nat}{nl:Option Bool}:AV.le (.d (.sl e nl [])) (.d (.sl e' none []))<->True:=⟨fun _=>trivial,fun _=>AV.AP DL.nil⟩
theorem JJ(x:D):DL x x<->True:=⟨fun _=>trivial,fun _=>DL.refl x⟩
theorem Ly{e e':Nat}{nl:Option Bool}:DL (.sl e nl []) (.sl e' none [])<->True:=⟨fun _=>trivial,fun _=>DL.nil⟩
theorem Qb{xs:List AV}{ys:List D}(h:ju xs (ys.map .d)):AV.le (.agg xs) (.d (.agg ys))<->True:=⟨fun _=>trivial,fun _=>AV.zC h⟩
theorem S_{xs ys:List AV}(h:ju xs ys):AV.le (.kZ xs) (.kZ ys)<->True:=⟨fun _=>trivial,fun _=>AV.BE h⟩
def Z3(x y:AV):Prop:=x=y\/((∀d,x≠ .dp d)/\(∀d,y≠ .dp d)/\AV.le x y)\/∃e0 e,x=.d (.sl e0 (some true) [])/\y=.dp (.sl e none [])
def wA:List AV->List AV->Prop
 |[],[]=>True
 |x::xs,y::ys=>Z3 x y/\wA xs ys
 |_,_=>False
theorem wA.refl:∀xs:List AV,wA xs xs
 |[]=>trivial
 |x::xs=>⟨.inl rfl,wA.refl xs⟩
theorem wA.length:∀{xs ys:List AV},wA xs ys->xs.length=ys.length
 |[],[]=>fun _=>rfl
 |x::xs,y::ys=>fun h=>by simp[wA.length h.2]
 |[],_::_=>fun h=>h.elim
 |_::_,[]=>fun h=>h.elim
theorem Z3.nx{β:i_}{O:Own}{w:World}{x y:AV}{v:Value}{bs:List Nat}(h:Z3 x y)(hx:NX β O w x v bs):NX β O w y v bs:=by
 rcases h with rfl|⟨h1,h2,h3⟩|⟨e0,e,rfl,rfl⟩
 ·exact hx
 ·exact hx.imp (x':=y) (fun _ _=>rfl) (.inr ⟨h1,h2,h3 _ _ _ _⟩)
 ·obtain⟨h1,h2⟩:=hx;have h1:AV.ok β O w (.d (.sl e0 (some true) [])) v:=h1;simp only[AV.ok,D.ok]at h1;obtain⟨a,cap,h3,h4,⟨rfl,rfl⟩,_⟩:=h1;show NV w (.sl e none []) v bs;simp only[NV];exact⟨none,0,h3,h4,trivial,.inl ⟨rfl,trivial,h2⟩⟩
theorem wA.nxs{β:i_}{O:Own}{w:World}:∀{xs ys:List AV}{vs:List Value}{bs:List Nat},wA xs ys->rQ β O w xs vs bs->rQ β O w ys vs bs
 |[],[]=>fun _ h=>h
 |x::xs,y::ys=>fun hl h=>by
  simp only[rQ]at h⊢;obtain⟨v,r,b1,b2,h1,h2,h3,h4⟩:=h;exact⟨v,r,b1,b2,h1,h2,hl.1.nx h3,wA.nxs hl.2 h4⟩
 |[],_::_=>fun h=>h.elim
 |_::_,[]=>fun h=>h.elim
def XX:List (Lit×D)->List (Lit×D)->Prop
 |[],[]=>True
 |(k,x)::r,(k',y)::r'=>k=k'/\AV.le (.d x) (.d y)/\XX r r'
 |_,_=>False
theorem XX.refl:∀es:List (Lit×D),XX es es
 |[]=>trivial
 |(_,_)::r=>⟨rfl,fun _ _ _ _ h=>h,XX.refl r⟩
theorem XX.get{kl:Lit}:∀{es es':List (Lit×D)},XX es es'->(Ba es kl=none/\Ba es' kl=none)\/∃x y,Ba es kl=some x/\Ba es' kl=some y/\AV.le (.d x) (.d y)
 |[],[],_=>.inl ⟨rfl,rfl⟩
 |(k,x)::r,(k',y)::r',h=>by
  obtain⟨rfl,h1,h2⟩:=h;unfold Ba;by_cases hk:k=kl
  ·simp only[hk,aA];exact .inr ⟨x,y,rfl,rfl,h1⟩
  ·simp only[hk,aE];exact h2.get
 |[],_::_,h=>h.elim
 |_::_,[],h=>h.elim
theorem XX.ok{O:Own}{w:World}{P:Program}{k b:Nat}{es es':List (Lit×D)}(h:XX es es')(hm:EZ O w P k es b):EZ O w P k es' b:=by
 obtain⟨E,h1,h2⟩:=hm;refine⟨E,h1,fun kl=>?_⟩;have h3:=h2 kl;rcases h.get (kl:=kl)with⟨e1,e2⟩|⟨x,y,e1,e2,e3⟩
 ·rw[e1]at h3;rw[e2];exact h3
 ·rw[e1]at h3;rw[e2];obtain⟨v,k1,k2,k3⟩:=h3;exact⟨v,k1,k2,by have:=e3 (fun _=>.no) O w v (by simpa only[AV.ok]using k3);simpa only[AV.ok]using this⟩
def vl:Ob->Ob->Prop
 |.dead,.dead=>True
 |.obj t cs,.obj t' cs'=>t=t'/\ju cs cs'
 |.tok t e n,.tok t' e' n'=>t=t'/\e=e'/\n=n'
 |.lZ t e n cs,.lZ t' e' n' cs'=>t=t'/\e=e'/\n=n'/\ju (cs.map .d) (cs'.map .d)
 |.lI t e n cs,.lI t' e' n' cs'=>t=t'/\e=e'/\n=n'/\wA cs cs'
 |.kT e n cs,.kT e' n' cs'=>e=e'/\n=n'/\wA cs cs'
 |_,_=>False
def lM:iM->iM->Prop
 |[],[]=>True
 |(i,x)::r,(j,y)::r'=>i=j/\vl x y/\lM r r'
 |_,_=>False
theorem lM.sat:∀{s s':iM},lM s s'->∀id,vl (oq.sat s id) (oq.sat s' id)
 |[],[],_,_=>trivial
 |(i,x)::r,(j,y)::r',h,id=>by
  obtain⟨rfl,h1,h2⟩:=h;simp only[oq.sat];split
  ·exact h1
  ·exact h2.sat id
 |[],_::_,h,_=>h.elim
 |_::_,[],h,_=>h.elim
theorem ju.V5{O:Own}{w:World}:∀{xs ys:List D}{vs:List Value},ju (xs.map .d) (ys.map .d)->D.jk O w xs vs->D.jk O w ys vs
 |[],[],_,_,h=>h
 |x::xs,y::ys,_,hl,h=>by
  simp only[D.jk]at h⊢;obtain⟨v,r,h1,h0,h2,h3⟩:=h;refine⟨v,r,h1,h0,?_,ju.V5 hl.2 h3⟩;have:=hl.1 (fun _=>.no) O w v (by simpa only[AV.ok]using h2);simpa only[AV.ok]using this
 |[],_::_,_,hl,_=>hl.elim
 |_::_,[],_,hl,_=>hl.elim
theorem ju.length':∀{xs ys:List D},ju (xs.map .d) (ys.map .d)->xs.length=ys.length
 |[],[],_=>rfl
 |x::xs,y::ys,hl=>by simp[ju.length' hl.2]
 |[],_::_,hl=>hl.elim
 |_::_,[],hl=>hl.elim
theorem Inv.told{C:Ctx}{β:i_}{s s':iM}{w:World}(h:Inv C β s w)(hs:∀id,vl (sat s id) (sat s' id)):Inv C β s' w/\C.iN β s'=C.iN β s:=by
 have hown:∀b x,own β s' b x<->own β s b x:=fun b x=>by
  unfold own;refine ga fun id=>?_
  have:=hs id;revert this;cases sat s id<;>cases sat s' id<;>intro h1<;>first|exact h1.elim|exact dc|skip
  ·obtain⟨_,rfl,rfl⟩:=h1;exact dc
  ·obtain⟨_,rfl,rfl,_⟩:=h1;exact dc
  ·obtain⟨_,rfl,rfl,_⟩:=h1;exact dc
  ·obtain⟨rfl,rfl,_⟩:=h1;exact dc
 have hblk:∀id b,iG β s' id b<->iG β s id b:=fun id b=>by
  unfold iG;have:=hs id;revert this;cases sat s id<;>cases sat s' id<;>intro h1<;>first|exact h1.elim|exact dc|skip
  ·obtain⟨_,rfl,rfl⟩:=h1;exact dc
  ·obtain⟨_,rfl,rfl,_⟩:=h1;exact dc
  ·obtain⟨_,rfl,rfl,_⟩:=h1;exact dc
  ·obtain⟨rfl,rfl,_⟩:=h1;exact dc
 have hf:C.iN β s'=C.iN β s:=by funext b o;exact propext (or_congr dc (hown b o))
 refine⟨⟨h.size,h.io,h.keep,h.pU,fun b o ho=>h.qz b o ((hown b o).1 ho),fun id b hb=>h.sM id b ((hblk id b).1 hb),h.pl,h.low,fun id=>?_,
  fun i j b hi hj=>h.inj i j b ((hblk i b).1 hi) ((hblk j b).1 hj)⟩,hf⟩
 rw[hf];have h1:=h.obs id;have h2:=hs id;revert h1 h2;cases sat s id<;>cases sat s' id<;>intro h1 h2<;>first|exact h2.elim|exact h1|skip
 ·obtain⟨rfl,h2⟩:=h2;obtain⟨b,vs,h3,h4,h5,h6⟩:=h1;exact⟨b,vs,h3,h4,h5,h6.imp fun _ h=>h2.jk h⟩
 ·obtain⟨rfl,rfl,rfl⟩:=h2;exact h1
 ·obtain⟨rfl,rfl,rfl,h2⟩:=h2;obtain⟨u,h3,h4,h5⟩:=h1;refine⟨u,h3,h2.length'▸h4,?_⟩;rcases h5 with h5|⟨b,cap,vs,k1,k2,k3,k4,k5,k6,pre,rest,k7,k8⟩
  ·exact .inl h5
  ·exact .inr ⟨b,cap,vs,k1,k2,k3,k4,k5,k6,pre,rest,k7,h2.V5 k8⟩
 ·obtain⟨rfl,rfl,rfl,h2⟩:=h2;obtain⟨u,bs,h3,h4,h5,h6⟩:=h1;refine⟨u,bs,h3,h4,h2.length▸h5,?_⟩;rcases h6 with h6|⟨b,cap,vs,k1,k2,k3,k4,k5,k6,k7,k8⟩
  ·exact .inl h6
  ·exact .inr ⟨b,cap,vs,k1,k2,k3,k4,k5,k6,k7,h2.nxs k8⟩
 ·obtain⟨rfl,rfl,h2⟩:=h2;obtain⟨u,bs,h3,h4,h5,h6⟩:=h1;refine⟨u,bs,h3,h4,h2.length▸h5,?_⟩;rcases h6 with h6|⟨b,cap,vs,t,k1,k2,k3,k4,k5,k6,k9,k7,k8⟩
  ·exact .inl h6
  ·exact .inr ⟨b,cap,vs,t,k1,k2,k3,k4,k5,k6,k9,k7,h2.nxs k8⟩
theorem iW.leS{k:Nat}{env env':List AV}{s s':iM}(h:ju env env')(hs:lM s s'):iW k env s env' s':=fun C β a w hC hst=>by
 obtain⟨h1,hf⟩:=hst.inv.told hs.sat;obtain⟨h3,h4⟩:=h.get;exact⟨β,hst.defers,h1,by rw[hst.len,h3],fun i y hy=>by rw[hf];exact let⟨x,hx,hle⟩:=h4 i y hy;hle _ _ _ _ (hst.env i x hx)⟩
def rS(id:Nat):iM->iM
 |[]=>[]
 |(j,x)::r=>if j=id then rS id r else(j,x.kill id)::rS id r
theorem BQ(id j:Nat):∀s:iM,sat (rS id s) j=sat (jz id s) j
 |[]=>rfl
 |(i,x)::r=>by
  simp only[rS,jz];by_cases h:i=id
  ·subst h;simp only[aA,sat,BQ i j r];split
   ·rename_i h2;subst h2;rw[qc];simp
   ·rfl
  ·simp only[h,aE,sat,BQ id j r]
theorem iW.drop{k:Nat}{env:List AV}{s:iM}(id:Nat)(hid:k<=id):iW k env s (AV.ji (iQ id) env) (rS id s):=
 (iW.kill id hid).trans (iW.XC fun j=>(BQ id j s).symm)
theorem oR.mono{P:Program}{k:Nat}{mc:iJ}{Q Q':Post}{env:List AV}{s:iM}(h:oR P k mc Q env s)(hq:∀e env s,Q e env s->Q' e env s):oR P k mc Q' env s:=
 fun C hC hf c hc β a w hst=>dM (h C hC hf c hc β a w hst) fun e _ _ ⟨C',hx,β',env',s',h1,h2⟩=>⟨C',hx,β',env',s',h1,hq e env' s' h2⟩
def uy(P:Program)(k:Nat):iJ->Post->List AV->iM->Prop
 |.skip,Q,env,s=>Q .normal env s
 |.iE ms,Q,env,s=>zk P k (Q .normal) ms env s
 |.draw ms af,Q,env,s=>P.follows .mixedOrders=true/\yt P k (Dk ms af Q) ms [] env s
 |.seq a b,Q,env,s=>uy P k a (AB (fun env s=>uy P k b Q env s) Q) env s
 |.cond o a b,Q,env,s=>match ev env o with
  |.d (.lit (.bool t))=>if t=true then uy P k a Q env s else uy P k b Q env s
  |_=>False
 |.block id a,Q,env,s=>uy P k a (Gc id Q) env s
 |.loop x,Q,env,s=>oR P k (.loop x) Q env s
 |.exit id,Q,env,s=>Q (.exit id) env s
 |.ret,Q,env,s=>Q .ret env s
 |.dead,_,_,_=>False
 |.ghost x,Q,env,s=>∃env' s',iW k env s env' s'/\oR P k x Q env' s'
 |.HR g ps a b,Q,env,s=>oR P k (.HR g ps a b) Q env s
 |.scope a,Q,env,s=>uy P k a (KQ Q) env s
 |.label,Q,env,s=>Q .normal env s
theorem iB{P:Program}{k:Nat}:∀{mc:iJ}{Q:Post}{env:List AV}{s:iM},uy P k mc Q env s->oR P k mc Q env s
 |.skip,_,_,_,h=>aaJ h
 |.iE _,_,_,_,h=>agF h
 |.draw _ _,_,_,_,h=>ac2 h.1 h.2
 |.seq a b,Q,env,s,h=>ac6 (oR.mono (iB (mc:=a) h) fun e env s hq=>by
  cases e with
  |normal=>exact iB (mc:=b) hq
  |_=>exact hq)
 |.cond o a b,Q,env,s,h=>by
  simp only[uy]at h;split at h
  ·rename_i t ht;refine aaC ht ?_;unfold Br;split at h
   ·rename_i hb;rw[ah hb];exact iB (mc:=a) h
   ·rename_i hb;rw[aj hb];exact iB (mc:=b) h
  ·exact h.elim
 |.block id a,_,_,_,h=>Wz (iB (mc:=a) h)
 |.loop x,_,_,_,h=>h
 |.exit id,_,_,_,h=>aaE h
 |.ret,_,_,_,h=>ac4 h
 |.dead,_,_,_,h=>h.elim
 |.ghost x,_,_,_,h=>let⟨_,_,hw,h⟩:=h;WC hw h
 |.HR _ _ _ _,_,_,_,h=>h
 |.scope x,_,_,_,h=>WG (iB (mc:=x) h)
 |.label,_,_,_,h=>WD h
def kj(P:Program)(k:Nat)(x:iJ)(Q:Post)(env:List AV)(s:iM):Prop:=∃env' s',iW k env s env' s'/\oR P k x Q env' s'
theorem kj.of{P:Program}{k:Nat}{x:iJ}{Q:Post}{env env':List AV}{s s':iM}(hw:iW k env s env' s')(h:uy P k x Q env' s'):kj P k x Q env s:=⟨_,_,hw,iB h⟩
theorem kj.mw{P:Program}{k:Nat}{x:iJ}{Q:Post}{env env':List AV}{s s':iM}(hw:iW k env s env' s')(h:oR P k x Q env' s'):kj P k x Q env s:=⟨_,_,hw,h⟩
def C7(P:Program)(k:Nat)(b:Bool)(x y:iJ)(Q:Post)(env:List AV)(s:iM):Prop:=if b=true then uy P k x Q env s else uy P k y Q env s
def Nk(P:Program)(k:Nat)(x y:iJ)(Q:Post)(env:List AV)(s:iM):AV->Prop
 |.d (.lit (.bool b))=>C7 P k b x y Q env s
 |_=>False
section
variable{P:Program}{k:Nat}{Q:Post}{env env':List AV}{s s':iM}{x y mc:iJ}{b:Bool}
theorem UB:uy P k .skip Q env s=Q .normal env s:=(rfl)
theorem XM{ms:List jo}:uy P k (.iE ms) Q env s=zk P k (Q .normal) ms env s:=(rfl)
theorem Uy{ms:List jo}{af:List g_}:uy P k (.draw ms af) Q env s=(P.follows .mixedOrders=true/\yt P k (Dk ms af Q) ms [] env s):=(rfl)
theorem XP:uy P k (.seq x y) Q env s=uy P k x (AB (uy P k y Q) Q) env s:=(rfl)
theorem QM{id:Nat}:uy P k (.block id x) Q env s=uy P k x (Gc id Q) env s:=(rfl)
theorem QS:uy P k (.scope x) Q env s=uy P k x (KQ Q) env s:=(rfl)
theorem QO:uy P k .label Q env s=Q .normal env s:=(rfl)
theorem WQ:KQ Q .ret env s=Q .ret env s:=(rfl)
theorem WO{id:Nat}:KQ Q (.exit id) env s=Q (.exit id) env s:=(rfl)
theorem UA:uy P k (.loop x) Q env s=oR P k (.loop x) Q env s:=(rfl)
theorem XO{g:Operand}{ps:List Nat}:uy P k (.HR g ps x y) Q env s=oR P k (.HR g ps x y) Q env s:=(rfl)
theorem QN:uy P k (.ghost x) Q env s=kj P k x Q env s:=(rfl)
theorem Uz{id:Nat}:uy P k (.exit id) Q env s=Q (.exit id) env s:=(rfl)
theorem XN:uy P k .ret Q env s=Q .ret env s:=(rfl)
theorem Ux{o:Operand}:uy P k (.cond o x y) Q env s=Nk P k x y Q env s (ev env o):=by
 simp only[uy];split
 ·rename_i b h;rw[h];rfl
 ·rename_i h;unfold Nk;split
  ·rename_i b h2;exact absurd h2 (h b)
  ·rfl
theorem abh:C7 P k true x y Q env s=uy P k x Q env s:=by simp[C7]
theorem abg:C7 P k false x y Q env s=uy P k y Q env s:=by simp[C7]
end
section
variable{P:Program}{k k0:Nat}{Q:Post}{K:List AV->iM->Prop}{env env':List AV}{s s':iM}{x y mc:iJ}{b b' want:Bool}{m:vJ}{d:Option Nat}{ms:List jo}
 {F:List (List Nat×List Nat)->List AV->iM->Prop} {acc acc':List (List Nat×List Nat)} {foot foot':List Nat}
@[congr] theorem abb (he:env=env')(hs:s=s'):uy P k mc Q env s=uy P k mc Q env' s':=by rw[he,hs]
@[congr] theorem aaj (he:env=env')(hs:s=s'):oR P k mc Q env s=oR P k mc Q env' s':=by rw[he,hs]
@[congr] theorem aag (hb:b=b'):C7 P k b x y Q env s=C7 P k b' x y Q env s:=by rw[hb]
@[congr] theorem aaf {R:List AV->iM->Prop}{o o':Out}(h:o=o'):nN P k0 R d o=nN P k0 R d o':=by rw[h]
@[congr] theorem aah (hb:b=b'):BZ P k0 K b want m d ms env s=BZ P k0 K b' want m d ms env s:=by rw[hb]
@[congr] theorem Ye {R:List AV->iM->Prop}{f:Nat}{args args':List AV}(ha:args=args')(he:env=env')(hs:s=s'):
 mA P k0 f args env s d R=mA P k0 f args' env' s' d R:=by rw[ha,he,hs]
@[congr] theorem ZS {o o':uI}(hf:foot=foot')(h:o=o'):mY P k0 F ms acc foot d env s o=mY P k0 F ms acc foot' d env s o':=by rw[h,hf]
@[congr] theorem aai (hb:b=b'):Be P k0 F b want m d ms acc env s=Be P k0 F b' want m d ms acc env s:=by rw[hb]
@[congr] theorem Yc {f:Nat}{args args':List AV}(ha:args=args'):oG P k0 F ms acc foot d env s f args=oG P k0 F ms acc foot d env s f args':=by rw[ha]
@[congr] theorem aaq {af:List g_}(ha:acc=acc')(he:env=env')(hs:s=s'):Dk ms af Q acc env s=Dk ms af Q acc' env' s':=by rw[ha,he,hs]
end
theorem SD{P:Program}{k0 f:Nat}{args env:List AV}{s:iM}{d:Option Nat}{R:List AV->iM->Prop}{dz:List D}{r:D}(hc:jK P f dz r)
 (ha:ju (args.map fun x=>x.jY (qu [])) (dz.map .d)) (hk:R (jB d env (.d r)) s):mA P k0 f args env s d R:=B4 (J5 ha hc hk)
theorem PA{P:Program}{k0 f:Nat}{args env:List AV}{s:iM}{d:Option Nat}{R:List AV->iM->Prop}{dz:List D}{rs:List D}(hc:mO P f dz rs)
 (ha:ju (args.map fun x=>x.jY (qu [])) (dz.map .d)) (hk:R (jB d env (.kZ (rs.map .d))) s):mA P k0 f args env s d R:=B4 (H6 ha hc hk)
theorem SB{P:Program}{k0:Nat}{F:List (List Nat×List Nat)->List AV->iM->Prop}{ms:List jo}{acc:List (List Nat×List Nat)}{foot:List Nat}{d:Option Nat}{env:List AV}{s:iM}
 {f:Nat} {args:List AV} {dz:List D} {r:D} (hc:jK P f dz r) (ha:ju (args.map fun x=>x.jY (qu [])) (dz.map .d))
 (hk:yt P k0 F ms ((foot,[])::acc) (jB d env (.d r)) s):oG P k0 F ms acc foot d env s f args:=.inl ⟨_,ha,.inl ⟨r,hc,hk⟩⟩
theorem Pz{P:Program}{k0:Nat}{F:List (List Nat×List Nat)->List AV->iM->Prop}{ms:List jo}{acc:List (List Nat×List Nat)}{foot:List Nat}{d:Option Nat}{env:List AV}{s:iM}
 {f:Nat} {args:List AV} {dz rs:List D} (hc:mO P f dz rs) (ha:ju (args.map fun x=>x.jY (qu [])) (dz.map .d))
 (hk:yt P k0 F ms ((foot,[])::acc) (jB d env (.kZ (rs.map .d))) s):oG P k0 F ms acc foot d env s f args:=.inl ⟨_,ha,.inr ⟨rs,hc,hk⟩⟩
theorem jV.jv{P:Program}{f:Nat}{mc:iJ}{n:Nat}{rs:List vK}(h:jV P f mc n rs){args:List D}{r:D}
 (hm:oR P 0 mc (I1 rs fun x _=>AV.le x (.d r)) (args.map .d++List.replicate (n-(args.map AV.d).length) .iO) []):jK P f args r:=
 (h.calls hm).mono fun _ _ hx=>⟨_,hx,rfl⟩
theorem jV.mz{P:Program}{f:Nat}{mc:iJ}{n:Nat}{rs:List vK}(h:jV P f mc n rs){args:List D}{ds:List D}
 (hm:oR P 0 mc (I1 rs fun x _=>AV.le x (.kZ (ds.map .d))) (args.map .d++List.replicate (n-(args.map AV.d).length) .iO) []):mO P f args ds:=
 (h.calls hm).mono fun _ _ hx=>⟨_,hx,rfl⟩
def wY{σ β:Type}(f:σ->Option (σ⊕β)):Nat->σ->β->Prop
 |0,_,_=>False
 |n+1,s,b=>f s=some (.inr b)\/∃s',f s=some (.inl s')/\wY f n s' b
theorem wY.det{σ β:Type}{f:σ->Option (σ⊕β)}:∀{n m:Nat}{s:σ}{b c:β},wY f n s b->wY f m s c->b=c
 |0,_,_,_,_,h,_=>h.elim
 |_+1,0,_,_,_,_,h=>h.elim
 |n+1,m+1,s,b,c,h1,h2=>by
  rcases h1 with h1|⟨s1,h1,h3⟩<;>rcases h2 with h2|⟨s2,h2,h4⟩<;>rw[h1]at h2<;>cases h2
  ·rfl
  ·exact wY.det h3 h4
open Classical in
def iL{σ β:Type}(f:σ->Option (σ⊕β))(s:σ):Option β:=if h:∃b n,wY f n s b then some (choose h)else none
theorem tP{σ β:Type}{f:σ->Option (σ⊕β)}{s:σ}{b:β}(h:iL f s=some b):∃n,wY f n s b:=by
 unfold iL at h;split at h
 ·rename_i hx;cases h;exact eK hx
 ·cases h
theorem wY.iL{σ β:Type}{f:σ->Option (σ⊕β)}{n:Nat}{s:σ}{b:β}(h:wY f n s b):iL f s=some b:=by
 have hx:∃b n,wY f n s b:=⟨b,n,h⟩;unfold oq.iL;rw[dif_pos hx];obtain⟨m,hm⟩:=eK hx;rw[hm.det h]
theorem iK{σ β:Type}{f:σ->Option (σ⊕β)}{s:σ}{b:β}(h:f s=some (.inr b)):iL f s=some b:=wY.iL (n:=1) (.inl h)
theorem iZ{σ β:Type}{f:σ->Option (σ⊕β)}{s s':σ}(h:f s=some (.inl s')):iL f s=iL f s':=by
 cases hx:iL f s' with
 |some b=>obtain⟨n,hn⟩:=tP hx;exact wY.iL (n:=n+1) (.inr ⟨s',h,hn⟩)
 |none=>
  cases hy:iL f s with
  |none=>rfl
  |some b=>
   obtain⟨n,hn⟩:=tP hy;cases n with
   |zero=>exact hn.elim
   |succ n=>
    rcases hn with hn|⟨s2,h2,h3⟩
    ·rw[h]at hn;cases hn
    ·rw[h]at h2;cases h2;rw[h3.iL]at hx;cases hx
theorem nL{P:Program}{k:Nat}{Q:Post}{env:List AV}{s:iM}{x:iJ}{σ β:Type}{f:σ->Option (σ⊕β)}{s0:σ}{b:β}(hb:iL f s0=some b)
 (ws:List Nat) (vs:σ->List (Nat×AV)) (S:σ->iM) (hw:iW k env s (qG (tf env ws) (vs s0)) (S s0))
 (round:∀p t,f p=some t->(∀b',t=.inr b'->b'=b)->oR P k x (AB (fun env' s'=>∃p',t=.inl p'/\iW k env' s' (qG (tf env ws) (vs p')) (S p')) Q)
  (qG (tf env ws) (vs p)) (S p)):oR P k (.loop x) Q env s:=by
 obtain⟨n,hn⟩:=tP hb;refine WE ws (fun p:Nat×σ=>vs p.2) (fun p=>S p.2) (fun p=>wY f p.1 p.2 b) (·.1) (n,s0) hn hw ?_;rintro⟨m,p⟩ hm;cases m with
 |zero=>exact hm.elim
 |succ m=>
  rcases hm with hm|⟨p',hm,hr⟩
  ·refine(round p _ hm fun b' hb'=>by cases hb';rfl).mono fun e env s hq=>?_
   cases e with
   |normal=>obtain⟨p',hp,_⟩:=hq;cases hp
   |_=>exact hq
  ·refine(round p _ hm fun b' hb'=>by cases hb').mono fun e env s hq=>?_
   cases e with
   |normal=>obtain⟨p2,hp,hw⟩:=hq;cases hp;exact⟨(m,p'),hr,dw m,hw⟩
   |_=>exact hq
theorem sV{α:Type}{p:Prop}[Decidable p]{a:Option α}{r:α}(h:(if p then a else none)=some r):p/\a=some r:=by
 split at h
 ·rename_i hp;exact⟨hp,h⟩
 ·cases h
theorem GK{α:Type}{c:Bool}{a b:Option α}{r:α}(h:(if c=true then a else b)=some r):(c=true/\a=some r)\/(c=false/\b=some r):=by
 cases c with
 |true=>exact .inl ⟨rfl,by simpa using h⟩
 |false=>exact .inr ⟨rfl,by simpa using h⟩
theorem bind_some{α β:Type}{x:Option α}{K:α->Option β}{r:β}(h:x.bind K=some r):∃a,x=some a/\K a=some r:=av.1 h
theorem jD{σ β:Type}{x:Option β}{t:σ⊕β}{b:β}(h:x.map Sum.inr=some t)(hb:∀b',t=.inr b'->b'=b):x=some b:=by
 cases x with
 |none=>cases h
 |some c=>cases h;rw[hb c rfl]
open Classical in
def LK{α β:Type}(xs:List α)(a b:Option β):Option β:=if xs=[]then(if a=b then b else none)else b
theorem F5{α β:Type}{xs:List α}{a b:Option β}{r:β}(h:LK xs a b=some r):(xs=[]->a=some r)/\b=some r:=by
 unfold LK at h;split at h
 ·split at h
  ·rename_i h1;exact⟨fun _=>h1.trans h,h⟩
  ·cases h
 ·rename_i hx;exact⟨fun he=>absurd he hx,h⟩
open Classical in
def HN{α:Type}(f:Nat->Option α):Option α:=if h:∃a n,f n=some a then some (choose h)else none
theorem Ar{α:Type}{f:Nat->Option α}{a:α}(h:HN f=some a):∃n,f n=some a:=by
 unfold HN at h;split at h
 ·rename_i hx;cases h;exact eK hx
 ·cases h
theorem Oe{α:Type}{f:Nat->Option α}{a:α}(n:Nat)(h:f n=some a)(hu:∀m b,f m=some b->b=a):HN f=some a:=by
 have hx:∃a n,f n=some a:=⟨a,n,h⟩;unfold HN;rw[dif_pos hx];obtain⟨m,hm⟩:=eK hx;rw[hu m _ hm]
theorem CQ{p q:Prop}(hp:p)(hq:q):p/\q:=⟨hp,hq⟩
def Th(n off:Nat)(ag:Bool)(K:AV->Prop):Ob->Prop
 |.obj _ cs=>off+n<=cs.length/\K (OL n off cs ag)
 |_=>False
theorem Qc{n id off:Nat}{ag:Bool}{s:iM}{K:AV->Prop}:vD n ag (.ptr id off) s K=Th n off ag K (sat s id):=by
 simp only[vD];cases sat s id with
 |obj t cs=>cases ag<;>rfl
 |_=>rfl
attribute [go_sem] Th Qc
theorem Uu:AV.uZ []=some []:=rfl
theorem QJ{x:D}{xs:List AV}:AV.uZ (.d x::xs)=(AV.uZ xs).map (x::·):=rfl
theorem Uv{e id:Nat}{ys:List D}{xs:List AV}:AV.uZ (.own e id ys::xs)=none:=rfl
theorem Uw{id off:Nat}{xs:List AV}:AV.uZ (.ptr id off::xs)=none:=rfl
theorem Ut{e id off len:Nat}{xs:List AV}:AV.uZ (.su e id off len::xs)=none:=rfl
theorem XI{f:Nat}{a b xs:List AV}:AV.uZ (.fn f a b::xs)=none:=rfl
theorem QL{xs:List AV}:AV.uZ (.iO::xs)=none:=rfl
theorem Ur{ys xs:List AV}:AV.uZ (.agg ys::xs)=none:=rfl
def mkO(cs:List AV):Option (List D)->AV
 |some ds=>.d (.agg ds)
 |none=>.agg cs
theorem aaN:AV.mk []=.d (.agg []):=rfl
theorem WI{x:AV}{xs:List AV}:AV.mk (x::xs)=mkO (x::xs) (AV.uZ (x::xs)):=by unfold AV.mk;cases AV.uZ (x::xs)<;>rfl
attribute [go_sem] Uu QJ Uv Uw Ut XI QL Ur mkO aaN WI
theorem RX:RS (.pointer none)=.d (.lit (.pointer none)):=rfl
theorem RW:RS (.map none)=.d (.lit (.map none)):=rfl
theorem Vy:RS .nilFunc=.d (.lit .nilFunc):=rfl
theorem aam{k:IntKind}{n:Int}:cD (.int k n)=.lit (.int k n):=rfl
theorem VB{b:Bool}:cD (.bool b)=.lit (.bool b):=rfl
theorem Pg{b:ByteArray}:cD (.string b)=.lit (.string b):=rfl
theorem aan:cD (.slice none 0 0)=.sl 0 (some true) []:=rfl
theorem VD:cD (.pointer none)=.lit (.pointer none):=rfl
theorem VC:cD (.map none)=.lit (.map none):=rfl
theorem aal:cD .nilFunc=.lit .nilFunc:=rfl
theorem WY{k:IntKind}{n:Int}:one (.int k n)=true:=rfl
theorem TF{b:Bool}:one (.bool b)=true:=rfl
theorem MR{b:ByteArray}:one (.string b)=true:=rfl
theorem Qo{a:Option Addr}{n c:Nat}:one (.slice a n c)=true:=rfl
theorem W0{a:Option Addr}:one (.pointer a)=true:=rfl
theorem WZ{a:Option Nat}:one (.map a)=true:=rfl
theorem WX:one .nilFunc=true:=rfl
attribute [go_sem] RX RW Vy aam VB Pg aan VD VC aal WY TF MR Qo W0 WZ WX List.all_cons List.all_nil Bool.and_self
abbrev kD(k:IntKind)(n:Int):D:=.lit (.int k n)
abbrev sD(b:ByteArray):D:=.lit (.string b)
def iH{α:Type}(e:Nat)(f:α->D)(xs:List α):D:=.sl e none (xs.map f)
theorem Xv{α:Type}{e:Nat}{f:α->D}{xs:List α}:uw (.d (iH e f xs))=some (e,xs.map f):=rfl
theorem WN{α:Type}{e:Nat}{f:α->D}{xs:List α}:Ct (.d (iH e f xs))=none:=rfl
theorem PK{α:Type}{e:Nat}{f:α->D}{xs:List α}:AV.cells (.d (iH e f xs))=some [.d (iH e f xs)]:=rfl
theorem LJ{α:Type}{e:Nat}{f:α->D}{xs:List α}:AV.F4 (.d (iH e f xs))=none:=rfl
theorem Mg{α:Type}{e:Nat}{f:α->D}{xs:List α}:iI (iH e f xs)=[iH e f xs]:=rfl
theorem getD_map'{α:Type}[Inhabited α]{f:α->D}{l:List α}{i:Nat}{d:D}(h:i<l.length):(l.map f).getD i d=f (l.getD i default):=by simp[List.getD_eq_getElem?_getD,bt,az h]
attribute [go_sem] List.length_map List.length_append Option.map_some Option.map_none Option.bind_some and_self Nat.not_lt_zero Bool.not_true Bool.not_false List.forall_mem_cons List.not_mem_nil false_imp_iff implies_true getD_map' List.map_eq_nil_iff List.append_eq_nil_iff Int.toNat_natCast Ob.tok.injEq true_or or_true false_or or_false My JJ Ly Qb S_ Z2 lM vl rS
attribute [go_sem] QS QO WQ WO XO QN UB XM Uy XP QM UA Uz XN Ux abh abg Nk Xv WN PK LJ Mg qu nF
theorem ju.refl:∀xs:List AV,ju xs xs
 |[]=>trivial
 |x::xs=>⟨AV.le_refl x,ju.refl xs⟩
theorem vl.refl:∀o:Ob,vl o o
 |.dead=>trivial
 |.obj _ cs=>⟨rfl,ju.refl cs⟩
 |.tok _ _ _=>⟨rfl,rfl,rfl⟩
 |.lZ _ _ _ _=>⟨rfl,rfl,rfl,ju.refl _⟩
 |.lI _ _ _ _=>⟨rfl,rfl,rfl,wA.refl _⟩
 |.kT _ _ _=>⟨rfl,rfl,wA.refl _⟩
theorem AD{β:i_}{s s':iM}(hs:∀id,vl (sat s id) (sat s' id))(b o:Nat):own β s' b o<->own β s b o:=by
 unfold own;refine ga fun id=>?_
 have:=hs id;revert this;cases sat s id<;>cases sat s' id<;>intro h1<;>first|exact h1.elim|exact dc|skip
 ·obtain⟨_,rfl,rfl⟩:=h1;exact dc
 ·obtain⟨_,rfl,rfl,_⟩:=h1;exact dc
 ·obtain⟨_,rfl,rfl,_⟩:=h1;exact dc
 ·obtain⟨rfl,rfl,_⟩:=h1;exact dc
theorem D2{β:i_}{s s':iM}(hs:∀id,vl (sat s id) (sat s' id))(id b:Nat):iG β s' id b<->iG β s id b:=by
 unfold iG;have:=hs id;revert this;cases sat s id<;>cases sat s' id<;>intro h1<;>first|exact h1.elim|exact dc|skip
 ·obtain⟨_,rfl,rfl⟩:=h1;exact dc
 ·obtain⟨_,rfl,rfl,_⟩:=h1;exact dc
 ·obtain⟨_,rfl,rfl,_⟩:=h1;exact dc
 ·obtain⟨rfl,rfl,_⟩:=h1;exact dc
theorem Inv.ctx{C:Ctx}{s1:iM}{β:i_}{s:iM}{w:World}(hs:∀id,vl (sat C.s id) (sat s1 id)):Inv C β s w<->Inv {C with s:=s1} β s w:=by
 constructor
 ·intro h;exact⟨h.size,h.io,fun b o v h1 h2=>h.keep b o v h1 fun h3=>h2 ((AD hs b o).2 h3),fun b h1 h2=>h.pU b h1 fun id h3=>h2 id ((D2 hs id b).2 h3),
   fun b o h1=>(h.qz b o h1).imp (fun h2=>(AD hs b o).2 h2) id,fun id b h1=>(h.sM id b h1).imp (fun⟨i,h2⟩=>⟨i,(D2 hs i b).2 h2⟩) (fun x=>x),h.pl,
   fun b o h1=>⟨(h.low b o h1).1,fun h2=>(h.low b o h1).2 ((AD hs b o).1 h2)⟩,h.obs,h.inj⟩
 ·intro h;exact⟨h.size,h.io,fun b o v h1 h2=>h.keep b o v h1 fun h3=>h2 ((AD hs b o).1 h3),fun b h1 h2=>h.pU b h1 fun id h3=>h2 id ((D2 hs id b).1 h3),
   fun b o h1=>(h.qz b o h1).imp (fun h2=>(AD hs b o).1 h2) id,fun id b h1=>(h.sM id b h1).imp (fun⟨i,h2⟩=>⟨i,(D2 hs i b).1 h2⟩) (fun x=>x),h.pl,
   fun b o h1=>⟨(h.low b o h1).1,fun h2=>(h.low b o h1).2 ((AD hs b o).2 h2)⟩,h.obs,h.inj⟩
theorem iR.XC{P:Program}{f:Nat}{dz:List AV}{s s1:iM}{k:Nat}{R:AV->iM->Prop}(h:iR P f dz s1 k R)(hs:lM s s1):iR P f dz s k R:=fun C vs h1 h2 h3 h4=>by
 subst h1;have hs':=hs.sat;obtain⟨h5,h6⟩:=h3.told hs';refine(h {C with s:=s1} vs rfl h2 ((Inv.ctx hs').1 h5) (by
  show AV.jk C.β (Ctx.iN {C with s:=s1} C.β s1) C.w dz vs.toList;have:Ctx.iN {C with s:=s1} C.β s1=C.iN C.β C.s:=h6;rw[this];exact h4)).mono fun e w' ⟨v,x,β',s',e1,e2,e3,e4⟩=>⟨v,x,β',s',e1,(Inv.ctx hs').2 e2,e3,e4⟩
def lU:List Nat->iM->iM
 |[],s=>s
 |i::r,s=>lU r (rS i s)
def oB:List Nat->AV->AV
 |[],x=>x
 |i::r,x=>oB r (x.jY (iQ i))
theorem Inv.drop{C:Ctx}{β:i_}{s:iM}{w:World}(h:Inv C β s w)(id:Nat)(hid:C.k<=id):∃β',Inv C β' (rS id s) w/\
 ∀x v,AV.ok β (C.iN β s) w x v->AV.ok β' (C.iN β' (rS id s)) w (x.jY (iQ id)) v:=by
 have hs:∀j,vl (sat (jz id s) j) (sat (rS id s) j):=fun j=>by rw[BQ];exact .refl _
 obtain⟨h1,h2⟩:=(h.kill id hid).told hs;exact⟨_,h1,fun x v hx=>by rw[h2];exact xH hx⟩
theorem Inv.ou{C:Ctx}{w:World}:∀{ids:List Nat}{β:i_}{s:iM},Inv C β s w->(∀i∈ids,C.k<=i)->∃β',Inv C β' (lU ids s) w/\
 ∀x v,AV.ok β (C.iN β s) w x v->AV.ok β' (C.iN β' (lU ids s)) w (oB ids x) v
 |[],β,_,h,_=>⟨β,h,fun _ _ hx=>hx⟩
 |i::r,_,_,h,hi=>by
  obtain⟨β1,h1,h2⟩:=h.drop i (hi i (by simp));obtain⟨β2,h3,h4⟩:=h1.ou (ids:=r) fun j hj=>hi j (by simp[hj])
  exact⟨β2,h3,fun x v hx=>h4 _ _ (h2 _ _ hx)⟩
theorem iR.cut{P:Program}{f:Nat}{args:List AV}{s:iM}{k:Nat}{y:AV}{t:iM}
 (h:iR P f args s k fun x s'=>∃ids,(∀i∈ids,k<=i)/\AV.le (oB ids x) y/\lM (lU ids s') t):iR P f args s k fun x s'=>x=y/\s'=t:=fun C vs h1 h2 h3 h4=>
 (h C vs h1 h2 h3 h4).mono fun e w' ⟨v,x,β',s',e1,e2,e3,ids,e4,e5,e6⟩=>by
  subst h2;obtain⟨β2,h5,h6⟩:=e2.ou e4;obtain⟨h7,h8⟩:=h5.told e6.sat;exact⟨v,y,β2,t,e1,h7,by rw[h8];exact e5 _ _ _ _ (h6 _ _ e3),rfl,rfl⟩
theorem jV.oo{P:Program}{f:Nat}{mc:iJ}{n:Nat}{rs:List vK}(h:jV P f mc n rs){args:List AV}{s t:iM}{k:Nat}{y:AV}
 (hm:oR P k mc (I1 rs fun x s'=>∃ids,(∀i∈ids,k<=i)/\AV.le (oB ids x) y/\lM (lU ids s') t) (args++List.replicate (n-args.length) .iO) s):
 iR P f args s k fun x s'=>x=y/\s'=t:=iR.cut (h.calls hm)
theorem IV{P:Program}{k0 f:Nat}{args env:List AV}{s:iM}{d:Option Nat}{R:List AV->iM->Prop}(pr nw:List gU){dz:List AV}{s1 t:iM}{y:AV}
 (hc:iR P f dz s1 pr.length fun x s'=>x=y/\s'=t) (h1:pr.map (·.1)=List.range pr.length) (h2:((pr++nw).map (·.1)).Nodup) (h3:((pr++nw).map (·.2)).Nodup)
 (h4:∀p∈nw,sat s p.2=.dead/\k0<=p.2) (ha:ju (args.map fun x=>x.jY (qu pr)) dz) (hs:lM (nM s pr pr) s1)
 (hk:R (jB d env (y.jY (nF (pr++nw)))) (tj s t (pr++nw) (pr++nw))):mA P k0 f args env s d R:=
 B4 ⟨pr,nw,_,h1,h2,h3,h4,(hc.XC hs).args ha,fun x s' ⟨e1,e2⟩=>by subst e1;subst e2;exact hk⟩
theorem VY{P:Program}{k0:Nat}{F:List (List Nat×List Nat)->List AV->iM->Prop}{ms:List jo}{acc:List (List Nat×List Nat)}{foot:List Nat}{d:Option Nat}{env:List AV}{s:iM}
 {f:Nat} {args:List AV} (pr nw:List gU) {dz:List AV} {s1 t:iM} {y:AV}
 (hc:iR P f dz s1 pr.length fun x s'=>x=y/\s'=t) (h1:pr.map (·.1)=List.range pr.length) (h2:((pr++nw).map (·.1)).Nodup) (h3:((pr++nw).map (·.2)).Nodup)
 (h4:∀p∈nw,sat s p.2=.dead/\k0<=p.2) (ha:ju (args.map fun x=>x.jY (qu pr)) dz) (hs:lM (nM s pr pr) s1)
 (hk:yt P k0 F ms (((pr++nw).map (·.2)++foot,(KS t (pr++nw) (pr++nw)).map (·.1))::acc) (jB d env (y.jY (nF (pr++nw)))) (tq s (KS t (pr++nw) (pr++nw)))):
 oG P k0 F ms acc foot d env s f args:=.inr ⟨pr,nw,y,t,h1,h2,h3,h4,(hc.XC hs).args ha,hk⟩
theorem Gk{P:Program}{k0 f:Nat}{args env:List AV}{s:iM}{d:Option Nat}{R:List AV->iM->Prop}(o j id t e:Nat){e0 t':Nat}{cs:List AV}(hd:sat s id=.dead)
 (ho:sat s o=.obj t' cs) (hj:cs[j]?=some (.d (.sl e0 (some true) []))) (h:mA P k0 f args env (sset (sset s id (.tok t e 0)) o (.obj t' (cs.set j (.own e id [])))) d R):
 mA P k0 f args env s d R:=fun C β a w vs hC hst hvs=>by
 obtain⟨h1,m⟩:=hst.CY (t:=t) (e:=e) hd;have hoi:o≠id:=by rintro rfl;rw[hd]at ho;cases ho
 have h2:=h1.MZ (o:=o) (t:=t') (cs:=cs) (cs':=cs.set j (.own e id [])) (by rw[jA,aj hoi,ho]) fun _ hv=>DN hj (fun _ hv=>by
  simp only[AV.ok]at hv;rw[CR hv];exact DQ (by simp[iS])) hv
 have hf:C.iN (iS β id (.tok uY 0)) (sset (sset s id (.tok t e 0)) o (.obj t' (cs.set j (.own e id []))))=C.iN (iS β id (.tok uY 0)) (sset s id (.tok t e 0)):=by
  funext b q;refine propext (or_congr dc ?_);unfold own;refine ga fun i=>?_
  rw[jA];by_cases hio:i=o
  ·subst hio;rw[ah rfl,jA,aj hoi,ho]
  ·rw[aj hio]
 exact h C _ a w vs hC h2 (by rw[hf];exact m.jk hvs)
attribute [go_sem] KS nM tj Ob.jY lU oB
mutual
def AV.pX(id:Nat)(ds:List D):AV->AV
 |.iO=>.iO
 |.d x=>.d x
 |.own e j xs=>if j=id then .d (.sl e none xs)else .own e j xs
 |.ptr j off=>if j=id then .iO else .ptr j off
 |.su e j off len=>if j=id then(if e=1/\off+len<=ds.length/\(∀d∈ds,(iI d).length=1)then .d (.sl 1 none ((ds.drop off).take len))
  else if off=0/\len=ds.length/\(∀d∈ds,(iI d).length=e)then .d (.sl e none ds)else .iO)else .su e j off len
 |.pv cs=>.pv cs
 |.agg cs=>.agg (AV.sK id ds cs)
 |.kZ cs=>.kZ (AV.sK id ds cs)
 |.fn f a b=>.fn f (AV.sK id ds a) (AV.sK id ds b)
 |.kU e j n=>if j=id then(if n=ds.length/\(∀d∈ds,(iI d).length=e)then .d (.sl e none ds)else .iO)else .kU e j n
 |.mC j k off=>if j=id then .iO else .mC j k off
 |.Ey e xs=>.Ey e xs
 |.dp x=>.dp x
def AV.sK(id:Nat)(ds:List D):List AV->List AV
 |[]=>[]
 |x::xs=>AV.pX id ds x::AV.sK id ds xs
end
theorem Ex(id:Nat)(ds:List D):∀xs:List AV,AV.sK id ds xs=xs.map (AV.pX id ds)
 |[]=>rfl
 |x::xs=>by simp only[AV.sK,aK,Ex id ds xs]
theorem Ln{id:Nat}{ds:List D}{β β':i_}{O O':Own}{w w':World}{x:AV}{v:Value}(h:AV.ok β O w x v->AV.ok β' O' w' (x.pX id ds) v):
 ((∃d,x=.dp d/\x.pX id ds=.dp d)\/(∀d,x≠ .dp d)/\(∀d,x.pX id ds≠ .dp d)/\(AV.ok β O w x v->AV.ok β' O' w' (x.pX id ds) v)):=by
 cases x with
 |dp d=>exact .inl ⟨d,rfl,rfl⟩
 |own e j xs=>refine .inr ⟨fun d h=>(nomatch h),fun d h=>?_,h⟩;simp only[AV.pX]at h;split at h<;>exact nomatch h
 |ptr j off=>refine .inr ⟨fun d h=>(nomatch h),fun d h=>?_,h⟩;simp only[AV.pX]at h;split at h<;>exact nomatch h
 |su e j off len=>refine .inr ⟨fun d h=>(nomatch h),fun d h=>?_,h⟩;simp only[AV.pX]at h;(repeat' split at h)<;>exact nomatch h
 |kU e j k=>refine .inr ⟨fun d h=>(nomatch h),fun d h=>?_,h⟩;simp only[AV.pX]at h;(repeat' split at h)<;>exact nomatch h
 |mC j k off=>refine .inr ⟨fun d h=>(nomatch h),fun d h=>?_,h⟩;simp only[AV.pX]at h;split at h<;>exact nomatch h
 |_=>exact .inr ⟨fun d h=>(nomatch h),fun d h=>(nomatch h),h⟩
def Ob.pX(id:Nat)(ds:List D):Ob->Ob
 |.obj t cs=>.obj t (AV.sK id ds cs)
 |.lI t e n cs=>.lI t e n (AV.sK id ds cs)
 |.kT e n cs=>.kT e n (AV.sK id ds cs)
 |x=>x
def wO(id:Nat)(ds:List D):iM->iM
 |[]=>[]
 |(j,x)::r=>if j=id then wO id ds r else(j,x.pX id ds)::wO id ds r
theorem BR(id:Nat)(ds:List D)(j:Nat):∀s:iM,sat (wO id ds s) j=if j=id then .dead else(sat s j).pX id ds
 |[]=>by simp[wO,sat,Ob.pX]
 |(i,x)::r=>by
  simp only[wO];by_cases h:i=id
  ·subst h;simp only[aA,sat,BR i ds j r];split
   ·rfl
   ·rfl
  ·simp only[h,aE,sat,BR id ds j r];by_cases h2:j=i
   ·subst h2;simp[h]
   ·simp[h2]
theorem DP{β:i_}{s:iM}{id b o:Nat}{ds:List D}(h:own (iS β id .no) (wO id ds s) b o):∃i,i≠id/\wK β s i b o:=by
 obtain⟨i,h⟩:=h;rw[BR]at h;by_cases hi:i=id
 ·subst hi;simp at h
 ·refine⟨i,hi,?_⟩;unfold wK;simp only[hi,aE]at h;cases hs:sat s i with
  |dead=>rw[hs]at h;exact h
  |obj t cs=>rw[hs]at h;simpa[Ob.pX,iS,hi]using h
  |tok t e n=>rw[hs]at h;simpa[Ob.pX,iS,hi]using h
  |lZ t e n cs=>rw[hs]at h;simpa[Ob.pX,iS,hi]using h
  |lI t e n cs=>rw[hs]at h;simpa[Ob.pX,iS,hi]using h
  |kT e n cs=>rw[hs]at h;simpa[Ob.pX,iS,hi]using h
theorem Bp{β:i_}{s:iM}{id i b:Nat}{ds:List D}(h:iG (iS β id .no) (wO id ds s) i b):i≠id/\iG β s i b:=by
 unfold iG at h⊢;rw[BR]at h;by_cases hi:i=id
 ·subst hi;simp at h
 ·refine⟨hi,?_⟩;simp only[hi,aE]at h;cases hs:sat s i with
  |dead=>rw[hs]at h;exact h
  |obj t cs=>rw[hs]at h;simpa[Ob.pX,iS,hi]using h
  |tok t e n=>rw[hs]at h;simpa[Ob.pX,iS,hi]using h
  |lZ t e n cs=>rw[hs]at h;simpa[Ob.pX,iS,hi]using h
  |lI t e n cs=>rw[hs]at h;simpa[Ob.pX,iS,hi]using h
  |kT e n cs=>rw[hs]at h;simpa[Ob.pX,iS,hi]using h
theorem TX{O:Own}{w:World}{b:Nat}:∀{ds:List D}{vs:List Value}{o:Nat},(∀d∈ds,iI d=[d])->D.jk O w ds vs->lp O w b o vs->D.row O w b o 1 ds
 |[],_,_,_,_,_=>by simp[D.row]
 |d::ds,vs,o,hd,h,hc=>by
  simp only[D.jk]at h;obtain⟨v,r,rfl,h1,h2,h3⟩:=h;rw[D.ow];refine⟨⟨[v],rfl,fun j u hj=>?_,?_⟩,TX (fun x hx=>hd x (by simp[hx])) h3 fun j u hj=>?_⟩
  ·cases j with
   |zero=>simp at hj;subst hj;exact hc 0 v rfl
   |succ j=>simp at hj
  ·have:=hd d (by simp);cases d with
   |agg cs=>
    simp only[iI]at this;simp only[D.J6];have hx:=bP List.length this;cases cs with
    |nil=>simp at hx
    |cons c cs=>
     simp only[bY]at this;obtain⟨e1,_⟩:=this;have:=bP SizeOf.sizeOf e1;simp at this;omega
   |_=>exact⟨v,rfl,h2⟩
  ·have:=hc (j+1) u hj;rw[show o+1+j=o+(j+1) by omega];exact this
section
variable{C:Ctx}{β:i_}{s:iM}{w:World}{id t:Nat}{ds:List D}
theorem Gv{b o:Nat}(h:C.iN (iS β id .no) (wO id ds s) b o):C.iN β s b o:=h.imp (fun x=>x) fun h=>let⟨i,_,h⟩:=DP h;⟨i,h⟩
theorem Dq{x:D}{v:Value}(h:D.ok (C.iN β s) w x v):D.ok (C.iN (iS β id .no) (wO id ds s)) w x v:=D.kA (fun _ _ _ hc hn=>⟨hc,fun h=>hn (Gv h)⟩) _ _ h
theorem Am{x:List D}{v:List Value}(h:D.jk (C.iN β s) w x v):D.jk (C.iN (iS β id .no) (wO id ds s)) w x v:=D.jU (fun _ _ _ hc hn=>⟨hc,fun h=>hn (Gv h)⟩) _ _ h
def EY(s:iM)(id:Nat)(ds:List D):Prop:=
 (∃t,sat s id=.obj t (ds.map .d)/\∀d∈ds,iI d=[d])\/(∃t e,sat s id=.lZ t e ds.length (ds.flatMap iI)/\∀d∈ds,(iI d).length=e)\/
  ∃t e,sat s id=.obj t ((ds.flatMap iI).map .d)/\(∀d∈ds,(iI d).length=e)/\e≠1/\ds≠[]
theorem Wc(h:Inv C β s w)(ho:sat s id=.obj t (ds.map .d))(hd:∀d∈ds,iI d=[d]){off len:Nat}(hl:off+len<=ds.length){v:Value}
 (hv:AV.ok β (C.iN β s) w (.su 1 id off len) v):D.ok (C.iN (iS β id .no) (wO id ds s)) w (.sl 1 none ((ds.drop off).take len)) v:=by
 simp only[AV.ok]at hv;obtain⟨b,cap,h1,⟨h2,h3⟩,rfl⟩:=hv;have hob:=h.obs id;rw[ho]at hob;obtain⟨b',vs,h4,h5,h6,h7⟩:=hob;rw[h1]at h4;cases h4;have hlen:((ds.drop off).take len).length=len:=by simp;omega
 obtain⟨pre,rest,hvs,h7⟩:=h7;have h6':∀u∈pre,one u=true:=fun u hu=>h6 u (by rw[hvs];exact bp _ hu)
 have hoks:=DM h6' h7;have hcells:lp (C.iN (iS β id .no) (wO id ds s)) w b 0 pre:=fun j u hj=>by
  have hju:vs[j]?=some u:=by
   have:vs.toList[j]?=some u:=by rw[hvs,aV (aO.1 hj).1];exact hj
   simpa using this
  refine⟨?_,?_,h6' u (bW hj)⟩
  ·simp[World.cell?,h5,hju]
  ·rintro(hO|hO)
   ·have:=h.low b (0+j) hO;rcases h.qz b (0+j) ⟨id,by rw[ho];exact h1⟩with h8|h8
    ·exact this.2 h8
    ·omega
   ·obtain⟨i,hi,hO⟩:=DP hO;exact hi (h.inj i id b hO.block (by unfold iG;rw[ho];exact h1))
 simp only[D.ok];refine⟨some ⟨b,off,none⟩,cap,by rw[hlen],by rw[hlen];exact⟨h2,h3⟩,trivial,.inr ⟨b,off,rfl,?_⟩⟩;have hall:=Am (id:=id) (ds:=ds) hoks;rw[D.j_]at hall;refine TX (vs:=(pre.drop off).take len) (fun d hd'=>hd d (cU (cH hd'))) ?_ fun j u hj=>?_
 ·rw[D.j_];refine⟨by simp[<-hall.1],fun i x u hx hu=>?_⟩;rw[cy]at hx hu;split at hx
  ·rename_i hi;rw[ah hi]at hu;rw[cK]at hx hu;exact hall.2 _ _ _ hx hu
  ·cases hx
 ·rw[cy]at hj;split at hj
  ·rw[cK]at hj;have:=hcells (off+j) u hj;rwa [show 0+(off+j)=off+j by omega]at this
  ·cases hj
theorem Gp{O:Own}{w:World}:∀{xs ys:List D}{vs:List Value},D.jk O w (xs++ys) vs->∃us r,vs=us++r/\D.jk O w xs us/\D.jk O w ys r
 |[],ys,vs,h=>⟨[],vs,rfl,by simp[D.jk],h⟩
 |x::xs,ys,vs,h=>by
  simp only[bz,D.jk]at h;obtain⟨v,r,rfl,h0,h1,h2⟩:=h;obtain⟨us,r',rfl,h3,h4⟩:=Gp h2;exact⟨v::us,r',rfl,by simp only[D.jk];exact⟨v,us,rfl,h0,h1,h3⟩,h4⟩
theorem Gu{O:Own}{w:World}{b e:Nat}:∀{ds:List D}{vs:List Value}{o:Nat},(∀d∈ds,(iI d).length=e)->D.jk O w (ds.flatMap iI) vs->lp O w b o vs->D.row O w b o e ds
 |[],_,_,_,_,_=>by simp[D.row]
 |d::ds,vs,o,hd,h,hc=>by
  rw[cQ]at h;obtain⟨us,r,rfl,h1,h2⟩:=Gp h;have hl:=D.jy h1;rw[hd d (by simp)]at hl;rw[D.ow];refine⟨⟨us,hl,fun j u hj=>?_,Ow h1⟩,Gu (fun x hx=>hd x (by simp[hx])) h2 fun j u hj=>?_⟩
  ·exact hc j u (by rw[aV (aO.1 hj).1];exact hj)
  ·have:=hc (e+j) u (by rw[bJ iA,hl,cF];exact hj);rwa [<-di]at this
theorem Wb{e:Nat}(h:Inv C β s w)(ho:sat s id=.lZ t e ds.length (ds.flatMap iI)){e':Nat}(hd:∀d∈ds,(iI d).length=e'){v:Value}
 (hv:AV.ok β (C.iN β s) w (.kU e' id ds.length) v):D.ok (C.iN (iS β id .no) (wO id ds s)) w (.sl e' none ds) v:=by
 simp only[AV.ok]at hv;obtain⟨u,m,h1,h2,h3,_⟩:=hv;have hob:=h.obs id;rw[ho]at hob;obtain⟨u',h4,_,h6⟩:=hob;rw[h4]at h1;obtain⟨rfl,rfl⟩:=h1;have:=h3 rfl;subst this;simp only[D.ok];rcases h6 with⟨rfl,h7⟩|⟨b,cap,vs,rfl,k2,k3,k4,k5,k6,pre,rest,k7,k8⟩
 ·have:ds=[]:=bQ.1 h7;subst this;exact⟨none,0,rfl,⟨aC _,iA⟩,trivial,.inl rfl⟩
 ·refine⟨_,cap,rfl,⟨k4,k5⟩,trivial,.inr ⟨b,0,rfl,Gu hd (Am k8) fun j u hj=>?_⟩⟩;have hju:vs[j]?=some u:=by
   have:vs.toList[j]?=some u:=by rw[k7,aV (aO.1 hj).1];exact hj
   simpa using this
  refine⟨by simp[World.cell?,k2,hju],?_,k6 u (by rw[k7];exact bp _ (bW hj))⟩;have hbl:iG β s id b:=by unfold iG;rw[ho];exact⟨cap,h4⟩
  rintro(hO|hO)
  ·have:=h.low b (0+j) hO;rcases h.qz b (0+j) ⟨id,by rw[ho];exact⟨cap,h4⟩⟩with h8|h8
   ·exact this.2 h8
   ·omega
  ·obtain⟨i,hi,hO⟩:=DP hO;exact hi (h.inj i id b hO.block hbl)
theorem SR{e:Nat}(h:Inv C β s w)(ho:EY s id ds)(hd:∀d∈ds,(iI d).length=e)(hn:¬(e=1/\0+ds.length<=ds.length/\∀d∈ds,(iI d).length=1)){v:Value}
 (hv:AV.ok β (C.iN β s) w (.su e id 0 ds.length) v):D.ok (C.iN (iS β id .no) (wO id ds s)) w (.sl e none ds) v:=by
 simp only[AV.ok]at hv;obtain⟨b,cap,h1,⟨h2,h3⟩,rfl⟩:=hv;simp only[D.ok];by_cases hds:ds=[]
 ·subst hds;exact⟨_,cap,rfl,⟨h2,h3⟩,trivial,.inl rfl⟩
 obtain⟨d0,hd0⟩:=List.exists_mem_of_ne_nil _ hds;rcases ho with⟨t,ho,hd1⟩|⟨t,e',ho,hd1⟩|⟨t,e',ho,hd1,he1,hne⟩
 ·exfalso;have e1:=hd d0 hd0;rw[hd1 d0 hd0]at e1;exact hn ⟨e1.symm,iA,fun d hd=>by rw[hd1 d hd];rfl⟩
 ·have hob:=h.obs id;rw[ho]at hob;obtain⟨u,h4,_⟩:=hob;rw[h1]at h4;cases h4
 ·have hob:=h.obs id;rw[ho]at hob;obtain⟨b',vs,h4,h5,h6,h7⟩:=hob;rw[h1]at h4;cases h4;obtain⟨pre,rest,hvs,h7⟩:=h7;have h6':∀u∈pre,one u=true:=fun u hu=>h6 u (by rw[hvs];exact bp _ hu)
  have hoks:=DM h6' h7;refine⟨_,cap,rfl,⟨h2,h3⟩,trivial,.inr ⟨b,0,rfl,Gu hd (Am hoks) fun j u hj=>?_⟩⟩;have hju:vs[j]?=some u:=by
   have:vs.toList[j]?=some u:=by rw[hvs,aV (aO.1 hj).1];exact hj
   simpa using this
  refine⟨by simp[World.cell?,h5,hju],?_,h6' u (bW hj)⟩;rintro(hO|hO)
  ·have:=h.low b (0+j) hO;rcases h.qz b (0+j) ⟨id,by rw[ho];exact h1⟩with h8|h8
   ·exact this.2 h8
   ·omega
  ·obtain⟨i,hi,hO⟩:=DP hO;exact hi (h.inj i id b hO.block (by unfold iG;rw[ho];exact h1))
mutual
theorem Ev(h:Inv C β s w)(ho:EY s id ds):∀(x:AV)(v:Value),AV.ok β (C.iN β s) w x v->
 AV.ok (iS β id .no) (C.iN (iS β id .no) (wO id ds s)) w (x.pX id ds) v
 |.iO,v=>fun _=>by simp[AV.pX,AV.ok]
 |.d x,v=>fun hv=>by simp only[AV.pX,AV.ok]at hv⊢;exact Dq hv
 |.own e j xs,v=>fun hv=>by
  simp only[AV.pX];split
  ·simp only[AV.ok]at hv⊢;exact Dq hv.1
  ·rename_i hj;simp only[AV.ok]at hv⊢;obtain⟨h1,u,n,h2,h3⟩:=hv;exact⟨Dq h1,u,n,by simpa[iS,hj]using h2,h3⟩
 |.ptr j off,v=>fun hv=>by
  simp only[AV.pX];split
  ·simp[AV.ok]
  ·rename_i hj;simp only[AV.ok]at hv⊢;obtain⟨b,h1,h2⟩:=hv;exact⟨b,by simpa[iS,hj]using h1,h2⟩
 |.su e j off len,v=>fun hv=>by
  simp only[AV.pX];split
  ·rename_i hj;subst hj;split
   ·rename_i hc;obtain⟨rfl,hc,hc1⟩:=hc;simp only[AV.ok];rcases ho with⟨t,ho,hd⟩|⟨t,e,ho,hd⟩|⟨t,e,ho,hd,he1,hne⟩
    ·exact Wc h ho hd hc hv
    ·have hob:=h.obs j;rw[ho]at hob;obtain⟨u,h4,_⟩:=hob;simp only[AV.ok]at hv;obtain⟨b,cap,h1,_⟩:=hv;rw[h1]at h4;cases h4
    ·obtain⟨d,hd'⟩:=List.exists_mem_of_ne_nil _ hne;exact absurd ((hd d hd').symm.trans (hc1 d hd')) he1
   ·rename_i hc1;split
    ·rename_i hc;obtain⟨rfl,rfl,hc⟩:=hc;simp only[AV.ok];exact SR h ho hc hc1 hv
    ·simp[AV.ok]
  ·rename_i hj;simp only[AV.ok]at hv⊢;obtain⟨b,cap,h1,h2⟩:=hv;exact⟨b,cap,by simpa[iS,hj]using h1,h2⟩
 |.pv cs,v=>fun hv=>by
  simp only[AV.pX,AV.ok]at hv⊢;obtain⟨b,o,vs,h1,h2,h3⟩:=hv;exact⟨b,o,vs,h1,h2.mono (fun _ _ _ hc hn=>⟨hc,fun h=>hn (Gv h)⟩),Am h3⟩
 |.agg cs,v=>fun hv=>by
  simp only[AV.pX,AV.ok]at hv⊢;obtain⟨vs,h1,h2,h3⟩:=hv;exact⟨vs,h1,h2,AN h ho cs _ h3⟩
 |.kZ cs,v=>fun hv=>by
  simp only[AV.pX,AV.ok]at hv⊢;obtain⟨vs,h1,h3⟩:=hv;exact⟨vs,h1,AN h ho cs _ h3⟩
 |.fn f a b,v=>fun hv=>by
  simp only[AV.pX,AV.ok]at hv⊢;obtain⟨fs,cs,h1,h2,h3⟩:=hv;exact⟨fs,cs,h1,AN h ho a _ h2,AN h ho b _ h3⟩
 |.kU e j n,v=>fun hv=>by
  simp only[AV.pX];split
  ·rename_i hj;subst hj;split
   ·rename_i hc;obtain⟨rfl,hc⟩:=hc;simp only[AV.ok];rcases ho with⟨t,ho,hd⟩|⟨t,e,ho,hd⟩|⟨t,e,ho,hd,he1,hne⟩
    ·have hob:=h.obs j;rw[ho]at hob;obtain⟨b,vs,h4,_⟩:=hob;simp only[AV.ok]at hv;obtain⟨u,m,h1,_⟩:=hv;rw[h4]at h1;exact h1.elim
    ·exact Wb h ho hc hv
    ·have hob:=h.obs j;rw[ho]at hob;obtain⟨b,vs,h4,_⟩:=hob;simp only[AV.ok]at hv;obtain⟨u,m,h1,_⟩:=hv;rw[h4]at h1;exact h1.elim
   ·simp[AV.ok]
  ·rename_i hj;simp only[AV.ok]at hv⊢;obtain⟨u,m,h1,h2⟩:=hv;exact⟨u,m,by simpa[iS,hj]using h1,h2⟩
 |.mC j k off,v=>fun hv=>by
  simp only[AV.pX];split
  ·simp[AV.ok]
  ·rename_i hj;simp only[AV.ok]at hv⊢;obtain⟨u,m,b,off',h1,h2⟩:=hv;exact⟨u,m,b,off',by simpa[iS,hj]using h1,h2⟩
 |.Ey e xs,v=>fun hv=>by
  simp only[AV.pX,AV.ok]at hv⊢;obtain⟨a,h1,h2⟩:=hv;exact⟨a,h1,Dq h2⟩
 |.dp x,v=>fun _=>by simp[AV.pX,AV.ok]
theorem AN(h:Inv C β s w)(ho:EY s id ds):∀(xs:List AV)(vs:List Value),AV.jk β (C.iN β s) w xs vs->
 AV.jk (iS β id .no) (C.iN (iS β id .no) (wO id ds s)) w (AV.sK id ds xs) vs
 |[],vs=>fun hv=>by simpa[AV.sK,AV.jk]using hv
 |x::xs,vs=>fun hv=>by
  simp only[AV.sK,AV.jk]at hv⊢;obtain⟨v,r,h1,h2,h3⟩:=hv;exact⟨v,r,h1,Ev h ho x v h2,AN h ho xs r h3⟩
end
theorem Inv.pX(h:Inv C β s w)(hid:C.k<=id)(ho:EY s id ds):Inv C (iS β id .no) (wO id ds s) w where
 size:=h.size
 io:=h.io
 keep:=h.keep
 pU:=h.pU
 qz:=fun b o ho=>let⟨i,_,h1⟩:=DP ho;h.qz b o ⟨i,h1⟩
 sM:=fun i b hb=>h.sM i b (Bp hb).2
 pl:=fun i hi=>by
  have:i≠id:=by omega
  simpa[iS,this]using h.pl i hi
 low:=h.low
 obs:=fun i=>by
  rw[BR];by_cases hi:i=id
  ·subst hi;simp[yb,iS]
  ·simp only[hi,aE];have hob:=h.obs i;cases hs:sat s i with
   |dead=>rw[hs]at hob;simpa[Ob.pX,yb,iS,hi]using hob
   |obj t' cs=>
    rw[hs]at hob;obtain⟨b,vs,h1,h2,h0,h3⟩:=hob;exact⟨b,vs,by simpa[iS,hi]using h1,h2,h0,h3.imp fun _ hx=>AN h ho _ _ hx⟩
   |tok t' e n=>
    rw[hs]at hob;obtain⟨u,h1,h2⟩:=hob;exact⟨u,by simpa[iS,hi]using h1,h2⟩
   |lZ t' e n cs=>
    rw[hs]at hob;obtain⟨u,h1,hl,h2⟩:=hob;refine⟨u,by simpa[iS,hi]using h1,hl,?_⟩;rcases h2 with h2|⟨b,cap,vs,k1,k2,k3,k4,k5,k6,pre,rest,k7,k8⟩
    ·exact .inl h2
    ·exact .inr ⟨b,cap,vs,k1,k2,k3,k4,k5,k6,pre,rest,k7,Am k8⟩
   |lI t' e n cs=>
    rw[hs]at hob;obtain⟨u,bs,h1,h0,h2⟩:=hob;refine⟨u,bs,by simpa[iS,hi]using h1,h0,?_⟩;rw[Ex];exact h2.imp (f:=AV.pX id ds) (β:=β) (O:=C.iN β s) (w:=w) (fun x v=>Ln (Ev h ho x v)) (fun _ _=>rfl) (fun _ _ _=>rfl)
   |kT e n cs=>
    rw[hs]at hob;obtain⟨u,bs,h1,h0,h2⟩:=hob;refine⟨u,bs,by simpa[iS,hi]using h1,h0,?_⟩;rw[Ex];exact h2.imp (f:=AV.pX id ds) (β:=β) (O:=C.iN β s) (w:=w) (fun x v=>Ln (Ev h ho x v)) (fun _ _=>rfl) (fun _ _ _ _=>rfl)
 inj:=fun i j b hi hj=>h.inj i j b (Bp hi).2 (Bp hj).2
end
theorem zQ(id:Nat)(ds:List D):∀(xs:List AV)(i:Nat),(AV.sK id ds xs)[i]?=(xs[i]?).map (AV.pX id ds)
 |[],_=>by simp[AV.sK]
 |x::xs,0=>by simp[AV.sK]
 |x::xs,i+1=>by simp[AV.sK,zQ id ds xs i]
theorem By(id:Nat)(ds:List D):∀(xs:List AV),(AV.sK id ds xs).length=xs.length
 |[]=>rfl
 |x::xs=>by simp[AV.sK,By id ds xs]
theorem iW.V9{k:Nat}{env:List AV}{s:iM}(id:Nat){ds:List D}(hid:k<=id)(ho:EY s id ds):
 iW k env s (AV.sK id ds env) (wO id ds s):=fun C β a w hC hst=>by
 subst hC;refine⟨iS β id .no,hst.defers,hst.inv.pX hid ho,by rw[By,hst.len],fun i x hx=>?_⟩;rw[zQ]at hx;cases hx2:env[i]? with
 |none=>rw[hx2]at hx;cases hx
 |some y=>rw[hx2]at hx;cases hx;exact Ev hst.inv ho y _ (hst.env i y hx2)
def aD{α:Type}(f:α->D)(x:α):AV:=.d (f x)
theorem ML{α:Type}(f:α->D)(xs:List α):xs.map (aD f)=(xs.map f).map .d:=by rw[eF];rfl
theorem We{α:Type}[Inhabited α]{f:α->D}{xs:List α}{i:Nat}(h:i<xs.length):(xs.map (aD f)).getD i .iO=.d (f (xs.getD i default)):=by simp[List.getD_eq_getElem?_getD,bt,az h,aD]
theorem T8{α:Type}{f:α->D}{xs:List α}{i:Nat}{v:α}(h:i<xs.length):List.take i (xs.map (aD f))++(AV.d (f v)::List.drop (i+1) (xs.map (aD f)))=(xs.set i v).map (aD f):=by
 rw[fC,cz,ah (by simpa using h)];rfl
theorem Xg{k:IntKind}{n:Nat}{v:Int}:(List.replicate n [AV.d (.lit (.int k v))]).flatten=(List.replicate n v).map (aD fun v=>.lit (.int k v)):=by
 induction n with
 |zero=>rfl
 |succ n ih=>simp only[cE,cg,aK,ih];rfl
theorem vn{α:Type}{f:α->D}{x:AV}{v:α}(h:AV.le x (.d (f v))):∀n,ju (List.replicate n [x]).flatten ((List.replicate n v).map (aD f))
 |0=>trivial
 |n+1=>by simp only[cE,cg,aK,bz,aZ];exact⟨h,vn h n⟩
theorem IL{xs:List AV}:ju xs xs<->True:=⟨fun _=>trivial,fun _=>.refl _⟩
theorem Xf{n:Nat}{v:Int}:(List.replicate n [AV.d (iD v)]).flatten=(List.replicate n v).map (aD iD):=Xg
theorem Gy{id:Nat}{ds:List D}:AV.pX id ds .iO=.iO:=by simp only[AV.pX]
theorem SQ{id:Nat}{ds:List D}{x:D}:AV.pX id ds (.d x)=.d x:=by simp only[AV.pX]
theorem I5{id e j:Nat}{ds xs:List D}:AV.pX id ds (.own e j xs)=if j=id then .d (.sl e none xs)else .own e j xs:=by simp only[AV.pX]
theorem I7{id j off:Nat}{ds:List D}:AV.pX id ds (.ptr j off)=if j=id then .iO else .ptr j off:=by simp only[AV.pX]
theorem Eu{id e j off len:Nat}{ds:List D}(h:¬j=id):AV.pX id ds (.su e j off len)=.su e j off len:=by simp only[AV.pX,aj h]
class sW {α:Type} (f:α->D) (e:outParam Nat):Prop where
 len:∀x,(iI (f x)).length=e
theorem Dr{α:Type}{id n:Nat}{f:α->D}[sW f 1]{xs:List α}(h:xs.length=n):AV.pX id (xs.map f) (.su 1 id 0 n)=.d (iH 1 f xs):=by
 simp only[AV.pX,aA,bN];rw[ah ⟨trivial,by simp[h],by rintro d hd;obtain⟨x,_,rfl⟩:=a_.1 hd;exact sW.len x⟩,bI (by simp[h])];rfl
theorem Kp{α:Type}{id e n:Nat}{f:α->D}[sW f e]{xs:List α}(h:n=xs.length):AV.pX id (xs.map f) (.su e id 0 n)=.d (iH e f xs):=by
 subst h;by_cases he:e=1
 ·subst he;exact Dr rfl
 ·simp only[AV.pX,aA];rw[aj fun h=>he h.1,ah ⟨trivial,by simp,by rintro d hd;obtain⟨x,_,rfl⟩:=a_.1 hd;exact sW.len x⟩];rfl
theorem Ml{id:Nat}{ds cs:List D}:AV.pX id ds (.pv cs)=.pv cs:=by simp only[AV.pX]
theorem I4{id:Nat}{ds:List D}{cs:List AV}:AV.pX id ds (.agg cs)=.agg (AV.sK id ds cs):=by simp only[AV.pX]
theorem I8{id:Nat}{ds:List D}{cs:List AV}:AV.pX id ds (.kZ cs)=.kZ (AV.sK id ds cs):=by simp only[AV.pX]
theorem Mk{id f:Nat}{ds:List D}{a b:List AV}:AV.pX id ds (.fn f a b)=.fn f (AV.sK id ds a) (AV.sK id ds b):=by simp only[AV.pX]
theorem Gz{id:Nat}{ds:List D}:AV.sK id ds []=[]:=by simp only[AV.sK]
theorem Ew{id:Nat}{ds:List D}{x:AV}{xs:List AV}:AV.sK id ds (x::xs)=AV.pX id ds x::AV.sK id ds xs:=by simp only[AV.sK]
theorem N4{α:Type}{id:Nat}{ds:List D}{f:α->D}:∀xs:List α,AV.sK id ds (xs.map (aD f))=xs.map (aD f)
 |[]=>by simp only[cJ,AV.sK]
 |x::xs=>by simp only[aK,AV.sK,N4 xs,aD,AV.pX]
theorem WH{α:Type}{f:α->D}{xs:List α}:(xs.map f).map AV.d=xs.map (aD f):=(ML f xs).symm
theorem OG{α:Type}{ρ:Nat->Option Nat}{f:α->D}:∀xs:List α,AV.ji ρ (xs.map (aD f))=xs.map (aD f)
 |[]=>by simp only[cJ,AV.ji]
 |x::xs=>by simp only[aK,AV.ji,OG xs,aD,AV.jY]
theorem O3{α:Type}{f:α->D}:∀xs:List α,AV.uZ (xs.map (aD f))=some (xs.map f)
 |[]=>rfl
 |x::xs=>by simp only[aK,aD,AV.uZ,aB];exact⟨_,O3 xs,rfl⟩
theorem ac_{α:Type}{f:α->D}{xs:List α}:AV.mk (xs.map (aD f))=.d (.agg (xs.map f)):=by unfold AV.mk;rw[O3]
def arD{α:Type}(f:α->D)(xs:List α):D:=.agg (xs.map f)
theorem HH{P:Program}{k0 f:Nat}{args env:List AV}{s:iM}{d:Option Nat}{R:List AV->iM->Prop}{α:Type}(id:Nat){t:Nat}(g:α->D)(xs:List α)(hid:k0<=id)
 (ho:sat s id=.obj t (xs.map (aD g))) (hd:∀x,iI (g x)=[g x]) (h:mA P k0 f (AV.sK id (xs.map g) args) (AV.sK id (xs.map g) env) (wO id (xs.map g) s) d R):
 mA P k0 f args env s d R:=fun C β a w vs hC hst hvs=>by
 subst hC;have ho':sat s id=.obj t ((xs.map g).map .d):=by rw[ho,ML]
 have hd':∀d∈xs.map g,iI d=[d]:=fun d h=>by obtain⟨x,_,rfl⟩:=a_.1 h;exact hd x
 refine h C (iS β id .no) a w vs rfl ⟨hst.defers,hst.inv.pX hid (.inl ⟨t,ho',hd'⟩),by rw[By,hst.len],fun i x hx=>?_⟩ (AN hst.inv (.inl ⟨t,ho',hd'⟩) _ _ hvs);rw[zQ]at hx;cases hx2:env[i]? with
 |none=>rw[hx2]at hx;cases hx
 |some y=>rw[hx2]at hx;cases hx;exact Ev hst.inv (.inl ⟨t,ho',hd'⟩) y _ (hst.env i y hx2)
theorem Gl{P:Program}{k0 f:Nat}{args env:List AV}{s s':iM}{d:Option Nat}{R:List AV->iM->Prop}(hs:lM s s')(h:mA P k0 f args env s' d R):mA P k0 f args env s d R:=
 fun C β a w vs hC hst hvs=>by
 obtain⟨h1,hf⟩:=hst.inv.told hs.sat;exact h C β a w vs hC ⟨hst.defers,h1,hst.len,fun i y hy=>by rw[hf];exact hst.env i y hy⟩ (by rw[hf];exact hvs)
attribute [go_sem] Gy SQ I5 I7 Eu Dr Ml I4 I8 Mk Gz Ew N4 WH OG ac_ Ob.pX wO We T8 IL List.flatten_cons List.flatten_nil Xf arD Nat.mul_one List.length_set List.length_replicate
def lF{α:Type}(f:α->D)(xs:List α):List D:=(xs.map f).flatMap iI
theorem GA{α:Type}{f:α->D}:lF f []=[]:=rfl
theorem nE{α:Type}{f:α->D}{x:α}{xs:List α}:lF f (x::xs)=iI (f x)++lF f xs:=by simp[lF]
theorem vB{α:Type}{f:α->D}{xs ys:List α}:lF f (xs++ys)=lF f xs++lF f ys:=by simp[lF]
theorem E6{α:Type}{f:α->D}{e:Nat}(he:∀x,(iI (f x)).length=e):∀xs:List α,(lF f xs).length=xs.length*e
 |[]=>by simp[lF]
 |x::xs=>by rw[nE,ak,he,E6 he xs,aN,bZ];omega
theorem B8{α:Type}{f:α->D}{e:Nat}(he:∀x,(iI (f x)).length=e):∀(xs:List α)(i k:Nat)[Inhabited α],i<xs.length->k<=e->
 List.drop (i*e+k) (lF f xs)=(iI (f (xs.getD i default))).drop k++lF f (xs.drop (i+1))
 |[],i,k,_,h,_=>by simp at h
 |x::xs,0,k,_,h,hk=>by
  rw[nE,eE,bU,dj (by rw[he];exact hk)];simp
 |x::xs,i+1,k,_,h,hk=>by
  have e1:(i+1)*e+k=(iI (f x)).length+(i*e+k):=by rw[he,bZ];omega
  rw[nE,e1,List.drop_append,bE iA,aZ,cF,B8 he xs i k (by simpa using h) hk];simp
theorem EA{α:Type}{f:α->D}{e:Nat}(he:∀x,(iI (f x)).length=e):∀(xs:List α)(i k:Nat)[Inhabited α],i<xs.length->k<=e->
 List.take (i*e+k) (lF f xs)=lF f (xs.take i)++(iI (f (xs.getD i default))).take k
 |[],i,k,_,h,_=>by simp at h
 |x::xs,0,k,_,h,hk=>by
  rw[nE,eE,bU,cY (by rw[he];exact hk)];simp[lF]
 |x::xs,i+1,k,_,h,hk=>by
  have e1:(i+1)*e+k=(iI (f x)).length+(i*e+k):=by rw[he,bZ];omega
  rw[nE,e1,List.take_append,bI iA,cF,EA he xs i k (by simpa using h) hk,cC,nE,aF];simp
theorem Ii{α:Type}[Inhabited α]{f:α->D}{e:Nat}(he:∀x,(iI (f x)).length=e){xs:List α}{i k:Nat}(hi:i<xs.length)(hk:k<e){d:D}:
 (lF f xs).getD (i*e+k) d=(iI (f (xs.getD i default))).getD k d:=by
 have h:=B8 he xs i k hi iA;have h1:(lF f xs).getD (i*e+k) d=(List.drop (i*e+k) (lF f xs)).getD 0 d:=by simp[List.getD_eq_getElem?_getD]
 have h2:k<(iI (f (xs.getD i default))).length:=by rw[he];exact hk
 rw[h1,h];simp only[List.getD_eq_getElem?_getD];rw[aV (by rw[cV,he];omega),cK];simp
theorem ju.append:∀{xs ys us vs:List AV},ju xs ys->ju us vs->ju (xs++us) (ys++vs)
 |[],[],_,_,_,h=>h
 |_::_,_::_,_,_,h1,h2=>⟨h1.1,h1.2.append h2⟩
 |[],_::_,_,_,h,_=>h.elim
 |_::_,[],_,_,h,_=>h.elim
theorem Kt{α:Type}{f:α->D}{xs:List α}{y:α}{ds:List D}(h:ju (ds.map .d) ((iI (f y)).map .d)):ju ((lF f xs++ds).map .d) ((lF f (xs++[y])).map .d):=by
 rw[vB,aQ,aQ];refine(ju.refl _).append ?_;rw[nE,GA,aT];exact h
theorem Inv.O2{C:Ctx}{β:i_}{s:iM}{w:World}(h:Inv C β s w){id t e:Nat}(ho:sat s id=.tok t e 0):
 Inv C β (sset s id (.lZ t e 0 [])) w/\C.iN β (sset s id (.lZ t e 0 []))=C.iN β s:=by
 have hown:∀b o,own β (sset s id (.lZ t e 0 [])) b o<->own β s b o:=fun b o=>by
  unfold own;refine ga fun i=>?_
  rw[jA];by_cases hi:i=id
  ·subst hi;rw[ho];simp
  ·rw[aj hi]
 have hblk:∀i b,iG β (sset s id (.lZ t e 0 [])) i b<->iG β s i b:=fun i b=>by
  unfold iG;rw[jA];by_cases hi:i=id
  ·subst hi;rw[ho];simp
  ·rw[aj hi]
 have hf:C.iN β (sset s id (.lZ t e 0 []))=C.iN β s:=by funext b o;exact propext (or_congr dc (hown b o))
 refine⟨⟨h.size,h.io,h.keep,h.pU,fun b o ho=>h.qz b o ((hown b o).1 ho),fun id b hb=>h.sM id b ((hblk id b).1 hb),h.pl,h.low,fun i=>?_,
  fun i j b hi hj=>h.inj i j b ((hblk i b).1 hi) ((hblk j b).1 hj)⟩,hf⟩
 rw[hf,jA];have h1:=h.obs i;by_cases hi:i=id
 ·subst hi;rw[ho]at h1;obtain⟨u,h2,h3⟩:=h1;simp only[aA];refine⟨u,h2,by simp,?_⟩;rcases h3 with h3|⟨b,cap,vs,k1,k2,k3,k4,k5,k6⟩
  ·exact .inl h3
  ·exact .inr ⟨b,cap,vs,k1,k2,k3,k4,k5,k6,[],vs.toList,rfl,by simp[D.jk]⟩
 ·rw[aj hi];exact h1
theorem EY.lZ{α:Type}{s:iM}{id t e:Nat}(f:α->D)(xs:List α)(ho:sat s id=.lZ t e xs.length (lF f xs))(he:∀x,(iI (f x)).length=e):EY s id (xs.map f):=
 .inr (.inl ⟨t,e,by rw[aJ];exact ho,fun d hd=>by obtain⟨x,_,rfl⟩:=a_.1 hd;exact he x⟩)
theorem iW.V_{α:Type}{k:Nat}{env:List AV}{s:iM}(id:Nat){t e:Nat}(f:α->D)(xs:List α)(hid:k<=id)(ho:sat s id=.lZ t e xs.length (lF f xs))(he:∀x,(iI (f x)).length=e):
 iW k env s (AV.sK id (xs.map f) env) (wO id (xs.map f) s):=iW.V9 id hid (.lZ f xs ho he)
theorem SU{α:Type}{id e:Nat}{f:α->D}(he:∀x,(iI (f x)).length=e){xs:List α}:AV.pX id (xs.map f) (.kU e id xs.length)=.d (iH e f xs):=by
 simp only[AV.pX,aA];rw[ah ⟨by simp,fun d hd=>by obtain⟨x,_,rfl⟩:=a_.1 hd;exact he x⟩];rfl
theorem Et{id e j n:Nat}{ds:List D}(h:¬j=id):AV.pX id ds (.kU e j n)=.kU e j n:=by simp only[AV.pX,aj h]
theorem Gx{id j k off:Nat}{ds:List D}:AV.pX id ds (.mC j k off)=if j=id then .iO else .mC j k off:=by simp only[AV.pX]
def iV(k:Nat)(x:AV)(s:iM)(y:AV)(t:iM):Prop:=∀(C:Ctx)(β:i_)(w:World)(v:Value),C.k=k->Inv C β s w->AV.ok β (C.iN β s) w x v->
 ∃β',Inv C β' t w/\AV.ok β' (C.iN β' t) w y v
theorem iV.refl{k:Nat}{x:AV}{s:iM}:iV k x s x s:=fun _ β _ _ _ h1 h2=>⟨β,h1,h2⟩
theorem iV.trans{k:Nat}{x y z:AV}{s t u:iM}(h1:iV k x s y t)(h2:iV k y t z u):iV k x s z u:=fun C β w v hC h3 h4=>let⟨β1,h5,h6⟩:=h1 C β w v hC h3 h4;h2 C β1 w v hC h5 h6
theorem iV.told{k:Nat}{x y:AV}{s t:iM}(hx:AV.le x y)(hs:lM s t):iV k x s y t:=fun C β w v _ h3 h4=>by
 obtain⟨h1,hf⟩:=h3.told hs.sat;exact⟨β,h1,by rw[hf];exact hx _ _ _ _ h4⟩
theorem iV.ou{k:Nat}{x:AV}{s:iM}(ids:List Nat)(hi:∀i∈ids,k<=i):iV k x s (oB ids x) (lU ids s):=fun C β w v hC h3 h4=>by
 subst hC;obtain⟨β1,h1,h2⟩:=h3.ou hi;exact⟨β1,h1,h2 _ _ h4⟩
theorem iV.pX{k:Nat}{x:AV}{s:iM}(id:Nat){ds:List D}(hid:k<=id)(ho:EY s id ds):iV k x s (x.pX id ds) (wO id ds s):=fun C β w v hC h3 h4=>by
 subst hC;exact⟨_,h3.pX hid ho,Ev h3 ho _ _ h4⟩
theorem iR.done{P:Program}{f:Nat}{args:List AV}{s:iM}{k:Nat}{y:AV}{t:iM}(h:iR P f args s k fun x s'=>iV k x s' y t):iR P f args s k fun x s'=>x=y/\s'=t:=fun C vs h1 h2 h3 h4=>
 (h C vs h1 h2 h3 h4).mono fun _ w' ⟨v,_,β',_,e1,e2,e3,e4⟩=>let⟨β2,h5,h6⟩:=e4 C β' w' v h2 e2 e3;⟨v,y,β2,t,e1,h5,h6,rfl,rfl⟩
theorem jV.sk{P:Program}{f:Nat}{mc:iJ}{n:Nat}{rs:List vK}(h:jV P f mc n rs){args:List AV}{s t:iM}{k:Nat}{y:AV}
 (hm:oR P k mc (I1 rs fun x s'=>iV k x s' y t) (args++List.replicate (n-args.length) .iO) s):iR P f args s k fun x s'=>x=y/\s'=t:=iR.done (h.calls hm)
def lP(i j:Nat):Nat->Option Nat:=fun q=>if q=i then some j else if q=j then none else some q
def uD(i j:Nat)(β:i_):i_:=fun q=>if q=j then β i else if q=i then .no else β q
def lQ(i j:Nat)(ob:Ob):iM->iM
 |[]=>[(j,ob)]
 |(q,x)::r=>if q=i\/q=j then lQ i j ob r else(q,x.jY (lP i j))::lQ i j ob r
theorem EN(i j:Nat)(ob:Ob)(q:Nat):∀s:iM,sat (lQ i j ob s) q=if q=j then ob else if q=i then .dead else(sat s q).jY (lP i j)
 |[]=>by by_cases h:q=j<;>simp[lQ,sat,h,Ob.jY]
 |(p,x)::r=>by
  simp only[lQ];by_cases hp:p=i\/p=j
  ·rw[ah hp,EN i j ob q r];by_cases h1:q=j
   ·simp[h1]
   ·by_cases h2:q=i
    ·simp[h2]
    ·have:q≠p:=by rintro rfl;exact hp.elim h2 h1
     simp only[h1,h2,aE,sat,this]
  ·rw[aj hp];simp only[sat,EN i j ob q r];by_cases h1:q=p
   ·subst h1;have h2:¬q=i:=fun e=>hp (.inl e)
    have h3:¬q=j:=fun e=>hp (.inr e)
    simp[h2,h3]
   ·simp[h1]
theorem Inv.ada{C:Ctx}{β:i_}{s s':iM}{w:World}(h:Inv C β s w){i j:Nat}(hi:C.k<=i)(hj:C.k<=j)(hij:i≠j)(hd:sat s j=.dead)
 (hs:∀q,sat s' q=if q=j then(sat s i).jY (lP i j)else if q=i then .dead else(sat s q).jY (lP i j)):
 Inv C (uD i j β) s' w/\∀x v,AV.ok β (C.iN β s) w x v->AV.ok (uD i j β) (C.iN (uD i j β) s') w (x.jY (lP i j)) v:=by
 have from_:∀q,(q=i/\sat s' q=.dead)\/∃p,sat s' q=(sat s p).jY (lP i j)/\uD i j β q=β p/\(p=if q=j then i else q):=fun q=>by
  by_cases h1:q=j
  ·subst h1;exact .inr ⟨i,by rw[hs,ah rfl],by simp[uD],by simp⟩
  ·by_cases h2:q=i
   ·subst h2;exact .inl ⟨rfl,by rw[hs,aj h1,ah rfl]⟩
   ·exact .inr ⟨q,by rw[hs,aj h1,aj h2],by simp[uD,h1,h2],by simp[h1]⟩
 have hown:∀b o,own (uD i j β) s' b o<->own β s b o:=fun b o=>by
  constructor
  ·rintro⟨q,hq⟩;rcases from_ q with⟨_,h1⟩|⟨p,h1,h2,_⟩
   ·rw[h1]at hq;exact hq.elim
   ·exact⟨p,(vF (i:=p) (j:=q) h2 h1).1 hq⟩
  ·rintro⟨p,hp⟩;by_cases h1:p=i
   ·subst h1;exact⟨j,(vF (i:=p) (j:=j) (ρ:=lP p j) (by simp[uD]) (by rw[hs,ah rfl])).2 hp⟩
   ·by_cases h2:p=j
    ·subst h2;rw[hd]at hp;exact hp.elim
    ·exact⟨p,(vF (i:=p) (j:=p) (ρ:=lP i j) (by simp[uD,h1,h2]) (by rw[hs,aj h2,aj h1])).2 hp⟩
 have hblk:∀q b,iG (uD i j β) s' q b->∃p,iG β s p b/\(p=if q=j then i else q)/\(q=j\/q≠i):=fun q b hq=>by
  rcases from_ q with⟨_,h1⟩|⟨p,h1,h2,h3⟩
  ·unfold iG at hq;rw[h1]at hq;exact hq.elim
  ·refine⟨p,(zN h2 h1).1 hq,h3,?_⟩;by_cases h4:q=j
   ·exact .inl h4
   ·refine .inr fun h5=>?_
    subst h5;unfold iG at hq;rw[hs,aj h4,ah rfl]at hq;exact hq.elim
 have hf:C.iN (uD i j β) s'=C.iN β s:=by funext b o;exact propext (or_congr dc (hown b o))
 have hρ:∀a b,lP i j a=some b->uD i j β b=β a:=fun a b hab=>by
  unfold lP at hab;split at hab
  ·rename_i h1;cases hab;subst h1;simp[uD]
  ·split at hab
   ·cases hab
   ·rename_i h1 h2;cases hab;simp[uD,h1,h2]
 refine⟨⟨h.size,h.io,h.keep,h.pU,fun b o ho=>h.qz b o ((hown b o).1 ho),fun q b hb=>let⟨p,hp,_⟩:=hblk q b hb;h.sM p b hp,fun q hq=>?_,h.low,fun q=>?_,fun q q' b h1 h2=>?_⟩,
  fun x v hx=>by rw[hf];exact AV.xo hρ x v hx⟩
 ·have h1:q≠i:=by omega
  have h2:q≠j:=by omega
  simpa[uD,h1,h2]using h.pl q hq
 ·rw[hf];rcases from_ q with⟨h0,h1⟩|⟨p,h1,h2,_⟩
  ·rw[h1];subst h0;simp[yb,uD,hij]
  ·rw[h1];have ho:=h.obs p;cases hp:sat s p with
   |dead=>rw[hp]at ho;exact h2.trans ho
   |obj t cs=>rw[hp]at ho;obtain⟨b,vs,k1,k2,k3,k4⟩:=ho;exact⟨b,vs,h2.trans k1,k2,k3,k4.imp fun _ hx=>AV.yF hρ _ _ hx⟩
   |tok t e n=>rw[hp]at ho;obtain⟨u,k1,k2⟩:=ho;exact⟨u,h2.trans k1,k2⟩
   |lZ t e n cs=>rw[hp]at ho;obtain⟨u,k1,k2⟩:=ho;exact⟨u,h2.trans k1,k2⟩
   |lI t e n cs=>
    rw[hp]at ho;obtain⟨u,bs,k1,k0,k2⟩:=ho;refine⟨u,bs,h2.trans k1,k0,?_⟩;show JN _ _ _ _ _ _ _ _ (AV.ji _ cs);rw[kB];exact k2.imp (fun x v=>ni fun hx=>AV.xo hρ _ _ hx) (fun _ _=>rfl) (fun _ _ _=>rfl)
   |kT e n cs=>
    rw[hp]at ho;obtain⟨u,bs,k1,k0,k2⟩:=ho;refine⟨u,bs,h2.trans k1,k0,?_⟩;show Dg _ _ _ _ _ _ _ (AV.ji _ cs);rw[kB];exact k2.imp (fun x v=>ni fun hx=>AV.xo hρ _ _ hx) (fun _ _=>rfl) (fun _ _ _ _=>rfl)
 ·obtain⟨p,hp,e1,e2⟩:=hblk q b h1;obtain⟨p',hp',e3,e4⟩:=hblk q' b h2;have:=h.inj p p' b hp hp';subst this;rw[e1]at e3;by_cases h5:q=j<;>by_cases h6:q'=j<;>simp[h5,h6]at e3 e2 e4⊢<;>first|exact e3|exact absurd e3.symm e4|exact absurd e3 e2|skip
theorem iV.move{k:Nat}{x:AV}{s:iM}(i j:Nat){ob:Ob}(hi:k<=i)(hj:k<=j)(hij:i≠j)(hd:sat s j=.dead)(ho:(sat s i).jY (lP i j)=ob):
 iV k x s (x.jY (lP i j)) (lQ i j ob s):=fun C β w v hC h3 h4=>by
 subst hC;obtain⟨h5,h6⟩:=h3.ada (s':=lQ i j ob s) hi hj hij hd fun q=>by rw[EN,ho]
 exact⟨_,h5,h6 x v h4⟩
class C8 {α:Type} (f:α->D):Prop where
 one:∀x,iI (f x)=[f x]
instance:sW iD 1:=⟨fun _=>rfl⟩
instance:sW bD 1:=⟨fun _=>rfl⟩
instance{k:IntKind}:sW (kD k) 1:=⟨fun _=>rfl⟩
instance:sW sD 1:=⟨fun _=>rfl⟩
instance{α:Type}{e:Nat}{f:α->D}:sW (iH e f) 1:=⟨fun _=>rfl⟩
instance:C8 iD:=⟨fun _=>rfl⟩
instance:C8 bD:=⟨fun _=>rfl⟩
instance{k:IntKind}:C8 (kD k):=⟨fun _=>rfl⟩
instance:C8 sD:=⟨fun _=>rfl⟩
instance{α:Type}{e:Nat}{f:α->D}:C8 (iH e f):=⟨fun _=>rfl⟩
section
variable{α:Type}[Inhabited α]{f:α->D}{e:Nat}{xs ys:List α}{i k n:Nat}{y:α}{d:D}{ds:List D}
theorem N6[sW f e](hi:i<xs.length)(hk:k<e):(lF f xs).getD (i*e+k) d=(iI (f (xs.getD i default))).getD k d:=Ii sW.len hi hk
theorem Kr[sW f e](hi:i<xs.length)(hk:0<e):(lF f xs).getD (i*e) d=(iI (f (xs.getD i default))).getD 0 d:=Ii (k:=0) sW.len hi hk
theorem S0[sW f 1](hi:i<xs.length):(lF f xs).getD i d=(iI (f (xs.getD i default))).getD 0 d:=by have:=Kr (f:=f) (e:=1) (d:=d) hi iA;rwa [Nat.mul_one]at this
omit [Inhabited α]in
theorem FJ[sW f e]:(lF f xs).length=xs.length*e:=E6 sW.len xs
omit [Inhabited α]in
theorem SZ:List.flatMap iI (List.map f ys)=lF f ys:=rfl
omit [Inhabited α]in
theorem Wh:lF f xs++lF f ys=lF f (xs++ys):=vB.symm
omit [Inhabited α]in
theorem N7[C8 f]:lF f xs=xs.map f:=by
 induction xs with
 |nil=>rfl
 |cons x xs ih=>rw[nE,C8.one,ih];rfl
omit [Inhabited α]in
theorem PZ[C8 f]:lF f xs++f y::ds=lF f (xs++[y])++ds:=by rw[vB,nE,C8.one,GA,aF];rfl
omit [Inhabited α]in
theorem Ks[C8 f](hi:i<xs.length):List.take i (lF f xs)++f y::List.drop (i+1) (lF f xs)=lF f (xs.set i y):=by rw[N7,N7,fC,cz,ah (by simpa using hi)]
omit [Inhabited α]in
theorem PY[C8 f](hi:i<xs.length):List.take i (lF f xs)++[f y]++List.drop (i+1) (lF f xs)=lF f (xs.set i y):=by rw[aF];exact Ks hi
omit [Inhabited α]in
theorem SS[sW f e]{id:Nat}:AV.pX id (xs.map f) (.kU e id xs.length)=.d (iH e f xs):=SU sW.len
omit [Inhabited α]in
theorem iW.V8[sW f e]{k0 t:Nat}{env:List AV}{s:iM}(id:Nat)(f':α->D)(hf:f'=f)(xs:List α)(hid:k0<=id)(ho:sat s id=.lZ t e xs.length (lF f xs)):
 iW k0 env s (AV.sK id (xs.map f') env) (wO id (xs.map f') s):=by subst hf;exact iW.V_ id f' xs hid ho sW.len
omit [Inhabited α]in
theorem iV.agw[sW f e]{k0 t:Nat}{x:AV}{s:iM}(id:Nat)(f':α->D)(hf:f'=f)(xs:List α)(hid:k0<=id)(ho:sat s id=.lZ t e xs.length (lF f xs)):
 iV k0 x s (x.pX id (xs.map f')) (wO id (xs.map f') s):=by subst hf;exact iV.pX id hid (.lZ f' xs ho sW.len)
end
attribute [go_sem] N6 Kr S0 FJ SZ Wh PZ Ks PY nE GA
attribute [go_sem] Et Gx
theorem PD{e id n:Nat}:AV.cells (.kU e id n)=some [.kU e id n]:=rfl
theorem Ma{id k off:Nat}:AV.cells (.mC id k off)=some [.mC id k off]:=rfl
theorem Us{e id n:Nat}{xs:List AV}:AV.uZ (.kU e id n::xs)=none:=rfl
theorem QK{id k off:Nat}{xs:List AV}:AV.uZ (.mC id k off::xs)=none:=rfl
attribute [go_sem] PD Ma Us QK lP lQ
theorem iR.Yf{P:Program}{f:Nat}{args:List AV}{s:iM}{k:Nat}{z:AV}(h:iR P f args s k fun x s'=>∃y t,iV k x s' y t/\AV.le y z):iR P f args s k fun x _=>x=z:=fun C vs h1 h2 h3 h4=>
 (h C vs h1 h2 h3 h4).mono fun _ w' ⟨v,_,β',_,e1,e2,e3,_,t,e4,e5⟩=>let⟨β2,h5,h6⟩:=e4 C β' w' v h2 e2 e3;⟨v,z,β2,t,e1,h5,e5 _ _ _ _ h6,rfl⟩
theorem jV.ZL{P:Program}{f:Nat}{mc:iJ}{n:Nat}{rs:List vK}(h:jV P f mc n rs){args:List D}{r:D}
 (hm:oR P 0 mc (I1 rs fun x s'=>∃y t,iV 0 x s' y t/\AV.le y (.d r)) (args.map .d++List.replicate (n-(args.map AV.d).length) .iO) []):jK P f args r:=iR.Yf (h.calls hm)
theorem jV.aaU{P:Program}{f:Nat}{mc:iJ}{n:Nat}{rs:List vK}(h:jV P f mc n rs){args:List D}{ds:List D}
 (hm:oR P 0 mc (I1 rs fun x s'=>∃y t,iV 0 x s' y t/\AV.le y (.kZ (ds.map .d))) (args.map .d++List.replicate (n-(args.map AV.d).length) .iO) []):mO P f args ds:=iR.Yf (h.calls hm)
theorem Kq{C:Ctx}{β:i_}{O:Own}{s:iM}{w:World}(h:Inv C β s w){id t e e':Nat}{cs:List D}(ho:sat s id=.lZ t e' 0 cs){v:Value}(hv:AV.ok β O w (.own e id []) v):
 AV.ok β O w (.kU e id 0) v:=by
 have h1:=h.obs id;rw[ho]at h1;obtain⟨u,h2,_,h3⟩:=h1;simp only[AV.ok]at hv⊢;obtain⟨_,u',n,h4,_,h6⟩:=hv;rw[h2]at h4;obtain⟨rfl,rfl⟩:=h4;have:=h6 rfl;subst this;refine⟨v,0,by rw[h2];exact⟨rfl,rfl⟩,aC _,fun _=>rfl,?_⟩;rcases h3 with⟨h3,_⟩|⟨b,cap,vs,k1,k2,k3,k4,k5,_⟩
 ·exact .inl ⟨none,h3,trivial⟩
 ·exact .inr ⟨b,cap,k1,k4,k5⟩
theorem iW.O2{k:Nat}{env:List AV}{s:iM}{id t e:Nat}(ho:sat s id=.tok t e 0):iW k env s env (sset s id (.lZ t e 0 [])):=fun _ β _ _ _ hst=>by
 obtain⟨h1,hf⟩:=hst.inv.O2 ho;exact⟨β,hst.defers,h1,hst.len,fun j x hj=>by rw[hf];exact hst.env j x hj⟩
theorem iW.abr{k:Nat}{env:List AV}{s:iM}{o j id t t' e e':Nat}{cs:List AV}{ds:List D}(ho:sat s o=.obj t' cs)(hj:cs[j]?=some (.own e id []))(hi:sat s id=.lZ t e' 0 ds):
 iW k env s env (sset s o (.obj t' (cs.set j (.kU e id 0)))):=fun _ β _ _ _ hst=>
 ⟨β,hst.MZ ho fun _ hv=>DN hj (fun _ hv=>Kq hst.inv hi hv) hv⟩
theorem iW.QF{k:Nat}{env:List AV}{s:iM}(o j id t e:Nat){e0 t':Nat}{cs:List AV}(hd:sat s id=.dead)(ho:sat s o=.obj t' cs)(hj:cs[j]?=some (.d (.sl e0 (some true) []))):
 iW k env s env (sset (sset s id (.lZ t e 0 [])) o (.obj t' (cs.set j (.kU e id 0)))):=by
 have hoi:o≠id:=by rintro rfl;rw[hd]at ho;cases ho
 have hjl:j<cs.length:=(aO.1 hj).1;refine(iW.wT o j id t e hd ho hj).trans ((iW.O2 (id:=id) (t:=t) (e:=e) (by rw[jA,aj (gG hoi),jA,ah rfl])).trans
  ((iW.abr (o:=o) (j:=j) (id:=id) (t:=t) (t':=t') (e:=e) (e':=e) (cs:=cs.set j (.own e id [])) (ds:=[]) (by rw[jA,aj hoi,jA,ah rfl])
   (by rw[de,ah rfl,ah hjl]) (by rw[jA,ah rfl])).trans (iW.XC fun q=>?_)))
 rw[List.set_set];simp only[jA];by_cases h1:q=o
 ·simp[h1]
 ·by_cases h2:q=id<;>simp[h1,h2]
section
variable{α:Type}{f:α->D}{e:Nat}{xs:List α}
theorem Gw[sW f e]{id n:Nat}(h:n=xs.length):AV.pX id (xs.map f) (.kU e id n)=.d (iH e f xs):=by subst h;exact SS
theorem iW.Wa[sW f e]{k0 t n:Nat}{env:List AV}{s:iM}{ds:List D}(id:Nat)(f':α->D)(hf:f'=f)(xs:List α)(hid:k0<=id)(ho:sat s id=.lZ t e n ds)(hn:n=xs.length)(hs:ds=lF f xs):
 iW k0 env s (AV.sK id (xs.map f') env) (wO id (xs.map f') s):=by subst hn;subst hs;exact iW.V8 id f' hf xs hid ho
theorem iV.agy[sW f e]{k0 t n:Nat}{x:AV}{s:iM}{ds:List D}(id:Nat)(f':α->D)(hf:f'=f)(xs:List α)(hid:k0<=id)(ho:sat s id=.lZ t e n ds)(hn:n=xs.length)(hs:ds=lF f xs):
 iV k0 x s (x.pX id (xs.map f')) (wO id (xs.map f') s):=by subst hn;subst hs;exact iV.agw id f' hf xs hid ho
end
attribute [go_sem] Gw
theorem abu{d:D}{ds:List D}:List.flatMap iI (d::ds)=iI d++List.flatMap iI ds:=cQ
theorem abv:List.flatMap iI []=[]:=rfl
attribute [go_sem] abu abv
def pS{α:Type}(t:Prop)(x:Option α)(P:α->Prop):Prop:=(∀a,x=some a->P a)/\(t->∃a,x=some a)
theorem pS.some{α:Type}{t:Prop}{a:α}{P:α->Prop}(h:P a):pS t (Option.some a) P:=⟨fun b hb=>by cases hb;exact h,fun _=>⟨a,rfl⟩⟩
theorem pS.bind{α β:Type}{t:Prop}{x:Option α}{f:α->Option β}{P:α->Prop}{Q:β->Prop}(h:pS t x P)(hf:∀a,P a->pS t (f a) Q):pS t (x.bind f) Q:=
 ⟨fun b hb=>let⟨a,h1,h2⟩:=av.1 hb;(hf a (h.1 a h1)).1 b h2,fun ht=>by
  obtain⟨a,ha⟩:=h.2 ht;obtain⟨b,hb⟩:=(hf a (h.1 a ha)).2 ht;exact⟨b,by rw[ha,aa,hb]⟩⟩
theorem pS.ite{α:Type}{t:Prop}{c:Bool}{x y:Option α}{P:α->Prop}(h1:c=true->pS t x P)(h2:c=false->pS t y P):pS t (if c=true then x else y) P:=by
 cases c with
 |true=>simpa using h1 rfl
 |false=>simpa using h2 rfl
theorem pS.weak{α:Type}{t t':Prop}{x:Option α}{P:α->Prop}(h:pS t x P)(ht:t'->t):pS t' x P:=⟨h.1,fun hx=>h.2 (ht hx)⟩
theorem pS.inr{σ β:Type}{t:Prop}{x:Option β}{P:σ⊕β->Prop}(h:pS t x fun b=>P (.inr b)):pS t (x.map Sum.inr) P:=
 ⟨fun a ha=>by
  cases x with
  |none=>cases ha
  |some b=>cases ha;exact h.1 b rfl,fun ht=>let⟨a,ha⟩:=h.2 ht;⟨.inr a,by rw[ha];rfl⟩⟩
theorem pS.eq{α:Type}{x:Option α}{a:α}(h:pS True x (·=a)):x=Option.some a:=by obtain⟨b,hb⟩:=h.2 trivial;rw[hb,h.1 b hb]
theorem pS.get{α:Type}{x:Option α}{P:α->Prop}(h:pS True x P):∃a,x=Option.some a/\P a:=by obtain⟨b,hb⟩:=h.2 trivial;exact⟨b,hb,h.1 b hb⟩
theorem pS.UI{α β:Type}{t:Prop}{xs:List α}{a b:Option β}{P:β->Prop}(h:pS t b P)(he:xs=[]->a=b):pS t (LK xs a b) P:=by
 unfold LK;split
 ·rename_i hx;rw[ah (he hx)];exact h
 ·exact h
def Cn{σ β:Type}(inv:σ->Prop)(μ:σ->Nat)(Q:β->Prop)(m:Nat):σ⊕β->Prop
 |.inl s'=>inv s'/\μ s'<m
 |.inr b=>Q b
theorem pS.loop{σ β:Type}{t:Prop}{f:σ->Option (σ⊕β)}{Q:β->Prop}(inv:σ->Prop)(μ:σ->Nat){s:σ}(h0:inv s)(h:∀s,inv s->pS t (f s) (Cn inv μ Q (μ s))):pS t (iL f s) Q:=by
 constructor
 ·intro b hb;obtain⟨n,hn⟩:=tP hb;clear hb;induction n generalizing s with
  |zero=>exact hn.elim
  |succ n ih=>
   rcases hn with hn|⟨s',hs,hn⟩
   ·exact(h s h0).1 _ hn
   ·exact ih ((h s h0).1 _ hs).1 hn
 ·intro ht;have key:∀n s,μ s=n->inv s->∃b,iL f s=Option.some b:=by
   intro n;induction n using Nat.strongRecOn with
   |_ n ih=>
    intro s hn hs;obtain⟨r,hr⟩:=(h s hs).2 ht;have:=(h s hs).1 r hr;cases r with
    |inl s'=>obtain⟨b,hb⟩:=ih (μ s') (hn▸this.2) s' rfl this.1;exact⟨b,by rw[iZ hr,hb]⟩
    |inr b=>exact⟨b,iK hr⟩
  exact key _ s rfl h0
theorem pS.lim{α:Type}{t:Prop}{f:Nat->Option α}{P:α->Prop}(m:Nat)(h:∀n,pS (m<=n) (f n) P):pS t (HN f) P:=by
 constructor
 ·intro a ha;obtain⟨n,hn⟩:=Ar ha;exact(h n).1 a hn
 ·intro _;obtain⟨a,ha⟩:=(h m).2 (aC _);have hx:∃a n,f n=Option.some a:=⟨a,m,ha⟩;unfold HN;rw[dif_pos hx];exact⟨_,rfl⟩
def qJ{α:Type}(e:Nat)(f:α->D)(xs:List α):D:=.sl e (some xs.isEmpty) (xs.map f)
section
variable{α:Type}{e id:Nat}{f:α->D}{xs:List α}{O:Own}{w:World}
theorem Xt:uw (.d (qJ e f xs))=some (e,xs.map f):=rfl
theorem WL:Ct (.d (qJ e f xs))=some xs.isEmpty:=rfl
theorem PG:AV.cells (.d (qJ e f xs))=some [.d (qJ e f xs)]:=rfl
theorem LH:AV.F4 (.d (qJ e f xs))=none:=rfl
theorem Mf:iI (qJ e f xs)=[qJ e f xs]:=rfl
theorem DL.nz(h:0<xs.length):DL (iH e f xs) (qJ e f xs):=fun O w v hv=>by
 simp only[iH,qJ,D.ok]at hv⊢;obtain⟨a,cap,h1,h2,_,h4⟩:=hv;refine⟨a,cap,h1,h2,?_,h4⟩;have hne:xs≠[]:=cw.1 h;have he:xs.isEmpty=false:=by simpa using hne
 rcases h4 with h4|⟨b,o,rfl,_⟩
 ·exact absurd (List.map_eq_nil_iff.1 h4) hne
 ·simp[O7,he]
theorem DL.ZJ:DL (qJ e f xs) (iH e f xs):=DL.forget
theorem DL.aaS{e':Nat}:DL (.sl e' (some true) []) (qJ e f []):=fun O w v hv=>by
 simp only[qJ,D.ok,cJ]at hv⊢;obtain⟨a,cap,h1,h2,h3,h4⟩:=hv;exact⟨a,cap,h1,h2,h3,.inl trivial⟩
theorem B_(h:0<xs.length):AV.le (.d (iH e f xs)) (.d (qJ e f xs))<->True:=⟨fun _=>trivial,fun _=>AV.AP (DL.nz h)⟩
theorem y_(h:0<xs.length):AV.le (.own e id (xs.map f)) (.d (qJ e f xs))<->True:=⟨fun _=>trivial,fun _=>AV.Wt fun O w v hv=>DL.nz h O w v hv⟩
theorem Mz{e':Nat}:AV.le (.d (.sl e' (some true) [])) (.d (qJ e f []))<->True:=⟨fun _=>trivial,fun _=>AV.AP DL.aaS⟩
end
theorem TV{α:Type}{e e':Nat}{f:α->D}{O:Own}{w:World}{b:Nat}:∀{o:Nat}{xs:List (List α)},D.row O w b o e (xs.map (qJ e' f))->D.row O w b o e (xs.map (iH e' f))
 |_,[],h=>h
 |o,x::xs,h=>by
  simp only[aK,qJ,iH,D.row]at h⊢;obtain⟨⟨v,h1,h2,h3⟩,h4⟩:=h;exact⟨⟨v,h1,h2,DL.ZJ _ _ _ h3⟩,TV h4⟩
theorem DL.adw{α:Type}{e e':Nat}{f:α->D}{nl:Option Bool}{xs:List (List α)}:DL (.sl e nl (xs.map (qJ e' f))) (.sl e none (xs.map (iH e' f))):=fun O w v hv=>by
 simp only[D.ok,aJ,List.map_eq_nil_iff]at hv⊢;obtain⟨a,cap,h1,h2,_,h4⟩:=hv;refine⟨a,cap,h1,h2,trivial,h4.imp (fun h=>h) ?_⟩;rintro⟨b,o,h5,h6⟩;exact⟨b,o,h5,TV h6⟩
instance{α:Type}{e:Nat}{f:α->D}:sW (qJ e f) 1:=⟨fun _=>rfl⟩
instance{α:Type}{e:Nat}{f:α->D}:C8 (qJ e f):=⟨fun _=>rfl⟩
theorem ju.set:∀{xs:List AV}{i:Nat}{a b:AV},AV.le a b->ju (xs.set i a) (xs.set i b)
 |[],_,_,_,_=>trivial
 |_::xs,0,_,_,h=>⟨h,.refl xs⟩
 |x::_,i+1,_,_,h=>⟨AV.le_refl x,ju.set h⟩
theorem Ww{α:Type}{f:α->D}{xs:List α}{i:Nat}{a:AV}{v:α}(h:i<xs.length)(hle:AV.le a (.d (f v))):
 ju (List.take i (xs.map (aD f))++(a::List.drop (i+1) (xs.map (aD f)))) ((xs.set i v).map (aD f)):=by
 have e1:List.take i (xs.map (aD f))++(a::List.drop (i+1) (xs.map (aD f)))=(xs.map (aD f)).set i a:=by rw[cz,ah (by simpa using h)]
 rw[e1,fC];exact ju.set hle
attribute [go_sem] Xt WL PG LH Mf Mz
theorem mm{α β:Type}{f:α->β}{l:List α}{n:Nat}:List.take n (List.map f l)=List.map f (List.take n l):=List.map_take.symm
theorem mg{α β:Type}{f:α->β}{l:List α}{n:Nat}:List.drop n (List.map f l)=List.map f (List.drop n l):=List.map_drop.symm
theorem nW{α:Type}{l:List α}{n:Nat}(h:l.length<=n):List.take n l=l:=bI h
theorem nU{α:Type}{l:List α}{n:Nat}(h:l.length<=n):List.drop n l=[]:=bE h
theorem D1:lM [] []:=trivial
theorem xy{i:Nat}{x y:Ob}{r r':iM}(h:vl x y)(hr:lM r r'):lM ((i,x)::r) ((i,y)::r'):=⟨rfl,h,hr⟩
theorem KJ{α:Type}{f:α->D}{xs:List α}{i:Nat}{a:AV}{v:α}(h:i<xs.length)(hle:AV.le a (.d (f v))):
 ju (List.map (aD f) (List.take i xs)++[a]++List.map (aD f) (List.drop (i+1) xs)) ((xs.set i v).map (aD f)):=by
 have:=Ww (f:=f) (xs:=xs) (i:=i) (a:=a) (v:=v) h hle;rw[aF];simpa only[bO,bR,bz,aZ]using this
theorem enN:ju [] []:=trivial
theorem enC{x y:AV}{xs ys:List AV}(h:AV.le x y)(h':ju xs ys):ju (x::xs) (y::ys):=⟨h,h'⟩
theorem dsN:tr [] []:=trivial
theorem dsC{x y:D}{xs ys:List D}(h:D.le x y)(h':tr xs ys):tr (x::xs) (y::ys):=⟨h,h'⟩
theorem AK{e e':Nat}{nl:Option Bool}:D.le (.sl e nl []) (.sl e' none []):=fun O w vs h=>by
 simp only[D.J6]at h⊢;obtain⟨v,h1,h2⟩:=h;exact⟨v,h1,DL.nil _ _ _ h2⟩
theorem vm{e:Nat}{nl:Option Bool}{xs:List D}:D.le (.sl e nl xs) (.sl e none xs):=fun O w vs h=>by
 simp only[D.J6]at h⊢;obtain⟨v,h1,h2⟩:=h;exact⟨v,h1,DL.forget _ _ _ h2⟩
theorem AJ{xs ys:List D}(h:Z2 xs ys):D.le (.agg xs) (.agg ys):=fun O w vs hv=>by
 simp only[D.J6]at hv⊢;exact h.jk hv
theorem MA{α:Type}{e:Nat}{f:α->D}{xs:List α}:AV.le (.d (qJ e f xs)) (.d (.sl e none (xs.map f)))<->True:=⟨fun _=>trivial,fun _=>AV.AP DL.ZJ⟩
theorem MC{α:Type}{e e':Nat}{f:α->D}{xs:List (List α)}:AV.le (.d (.sl e none (xs.map (qJ e' f)))) (.d (.sl e none (xs.map (iH e' f))))<->True:=⟨fun _=>trivial,fun _=>AV.AP DL.adw⟩
attribute [go_sem] MA MC
theorem acX{α:Type}{x:AV}{f:α->D}{v:α}:AV.le x (aD f v)=AV.le x (.d (f v)):=(rfl)
theorem OM{α:Type}{f:α->D}{xs:List α}{i:Nat}{v:α}(h:i<xs.length):List.map (aD f) (List.take i xs)++(AV.d (f v)::List.map (aD f) (List.drop (i+1) xs))=(xs.set i v).map (aD f):=by rw[bO,bR];exact T8 h
theorem T9{α:Type}{f:α->D}{xs:List α}{i:Nat}{v:α}(h:i<xs.length):List.map (aD f) (List.take i xs)++[AV.d (f v)]++List.map (aD f) (List.drop (i+1) xs)=(xs.set i v).map (aD f):=by rw[aF];exact OM h
attribute [go_sem] acX OM T9
theorem jd{p q:Prop}(hq:q)(h:p=q:=by first|((conv=>lhs;simp(maxSteps:=1000000) (disch:=omega)only[go_sem,mm,mg,nW,nU,bN,aT,aZ,Nat.reduceAdd,Nat.reduceSub,Nat.reduceLeDiff,Nat.reduceEqDiff,Nat.reduceLT,Int.reduceToNat,reduceIte,reduceCtorEq])<;>rfl)|rfl):p:=h▸hq
theorem uE{c p q:Prop}(hc:c)(hq:q)(h:p=q:=by first|((conv=>lhs;simp(maxSteps:=1000000) (disch:=omega)only[go_sem,mm,mg,nW,nU,bN,aT,aZ,Nat.reduceAdd,Nat.reduceSub,Nat.reduceLeDiff,Nat.reduceEqDiff,Nat.reduceLT,Int.reduceToNat,reduceIte,reduceCtorEq,hc])<;>rfl)|rfl):p:=h▸hq
theorem nh{p:Prop}(h:p:=by first|(simp only[go_sem,iH,aQ,bO,bR,aF,Nat.reduceAdd,Nat.reduceSub,Nat.reduceLeDiff,Nat.reduceEqDiff,Nat.reduceLT,reduceIte,reduceCtorEq];done)|((try simp only[go_sem,iH,aQ,bO,bR,aF,Nat.reduceAdd,Nat.reduceSub,Nat.reduceLeDiff,Nat.reduceEqDiff,Nat.reduceLT,reduceIte,reduceCtorEq];repeat' (first|exact AV.le_refl _|refine And.intro ?_ ?_|refine AV.BE ?_|refine AV.zC ?_|refine AV.CP ?_|refine AV.AP (DL.agg ?_)|exact enN|exact D1|refine enC ?_ ?_|refine xy ?_ ?_|exact dsN|refine dsC ?_ ?_|exact vn (AV.AP DL.nil) _|exact D.le_refl _|exact AK|exact vm|refine AJ ?_|(simp only[go_sem,iH,aQ,bO,bR,aF,Nat.reduceAdd,Nat.reduceSub,Nat.reduceLeDiff,Nat.reduceEqDiff,Nat.reduceLT,reduceIte,reduceCtorEq];done)|refine tr.append (tr.refl _) ?_|refine AV.xm ?_|refine AV.GO ?_|omega));done)):p:=h
section
variable{P:Program}{k0 f:Nat}{args env:List AV}{s:iM}{d:Option Nat}{R:List AV->iM->Prop}{F:List (List Nat×List Nat)->List AV->iM->Prop}{ms:List jo}{acc:List (List Nat×List Nat)}{foot:List Nat}
end
theorem wk{k:Nat}{env env':List AV}{s s':iM}(h:ju env env':=by first|(simp only[go_sem,iH,aQ,bO,bR,aF,Nat.reduceAdd,Nat.reduceSub,Nat.reduceLeDiff,Nat.reduceEqDiff,Nat.reduceLT,reduceIte,reduceCtorEq];done)|((try simp only[go_sem,iH,aQ,bO,bR,aF,Nat.reduceAdd,Nat.reduceSub,Nat.reduceLeDiff,Nat.reduceEqDiff,Nat.reduceLT,reduceIte,reduceCtorEq];repeat' (first|exact AV.le_refl _|refine And.intro ?_ ?_|refine AV.BE ?_|refine AV.zC ?_|refine AV.CP ?_|refine AV.AP (DL.agg ?_)|exact enN|exact D1|refine enC ?_ ?_|refine xy ?_ ?_|exact dsN|refine dsC ?_ ?_|exact vn (AV.AP DL.nil) _|exact D.le_refl _|exact AK|exact vm|refine AJ ?_|(simp only[go_sem,iH,aQ,bO,bR,aF,Nat.reduceAdd,Nat.reduceSub,Nat.reduceLeDiff,Nat.reduceEqDiff,Nat.reduceLT,reduceIte,reduceCtorEq];done)|refine tr.append (tr.refl _) ?_|refine AV.xm ?_|refine AV.GO ?_|omega));done))(hs:lM s s':=by first|(simp only[go_sem,iH,aQ,bO,bR,aF,Nat.reduceAdd,Nat.reduceSub,Nat.reduceLeDiff,Nat.reduceEqDiff,Nat.reduceLT,reduceIte,reduceCtorEq];done)|((try simp only[go_sem,iH,aQ,bO,bR,aF,Nat.reduceAdd,Nat.reduceSub,Nat.reduceLeDiff,Nat.reduceEqDiff,Nat.reduceLT,reduceIte,reduceCtorEq];repeat' (first|exact AV.le_refl _|refine And.intro ?_ ?_|refine AV.BE ?_|refine AV.zC ?_|refine AV.CP ?_|refine AV.AP (DL.agg ?_)|exact enN|exact D1|refine enC ?_ ?_|refine xy ?_ ?_|exact dsN|refine dsC ?_ ?_|exact vn (AV.AP DL.nil) _|exact D.le_refl _|exact AK|exact vm|refine AJ ?_|(simp only[go_sem,iH,aQ,bO,bR,aF,Nat.reduceAdd,Nat.reduceSub,Nat.reduceLeDiff,Nat.reduceEqDiff,Nat.reduceLT,reduceIte,reduceCtorEq];done)|refine tr.append (tr.refl _) ?_|refine AV.xm ?_|refine AV.GO ?_|omega));done)):iW k env s env' s':=iW.leS h hs
theorem iV.agx{α:Type}{k:Nat}{x:AV}{s:iM}(id:Nat){t:Nat}(f:α->D)[C8 f](xs:List α)(hid:k<=id)(ho:sat s id=.obj t (xs.map (aD f))):
 iV k x s (x.pX id (xs.map f)) (wO id (xs.map f) s):=
 iV.pX id hid (.inl ⟨t,by rw[ho,ML],fun d h=>by obtain⟨x,_,rfl⟩:=a_.1 h;exact C8.one x⟩)
theorem zP{p:Prop}(h:p:=by(try simp(disch:=first|omega|(simp only[ak,aN,bH,dW,aJ,eJ,Nat.reduceAdd]<;>fail)|fail)only[oB,AV.jY,AV.ji,lP,iQ,I8,I4,Ew,Gz,Dr,Kp,Eu,Gw,Et,SQ,Gy,I5,Mk,Ml,I7,Gx]);first|(simp only[go_sem,iH,aQ,bO,bR,aF,Nat.reduceAdd,Nat.reduceSub,Nat.reduceLeDiff,Nat.reduceEqDiff,Nat.reduceLT,reduceIte,reduceCtorEq];done)|((try simp only[go_sem,iH,aQ,bO,bR,aF,Nat.reduceAdd,Nat.reduceSub,Nat.reduceLeDiff,Nat.reduceEqDiff,Nat.reduceLT,reduceIte,reduceCtorEq];repeat' (first|exact AV.le_refl _|refine And.intro ?_ ?_|refine AV.BE ?_|refine AV.zC ?_|refine AV.CP ?_|refine AV.AP (DL.agg ?_)|exact enN|exact D1|refine enC ?_ ?_|refine xy ?_ ?_|exact dsN|refine dsC ?_ ?_|exact vn (AV.AP DL.nil) _|exact D.le_refl _|exact AK|exact vm|refine AJ ?_|(simp only[go_sem,iH,aQ,bO,bR,aF,Nat.reduceAdd,Nat.reduceSub,Nat.reduceLeDiff,Nat.reduceEqDiff,Nat.reduceLT,reduceIte,reduceCtorEq];done)|refine tr.append (tr.refl _) ?_|refine AV.xm ?_|refine AV.GO ?_|omega));done)):p:=h
theorem ag0{p q:Prop}(hq:q)(h:p=q:=by first|((conv=>lhs;simp(disch:=first|omega|(simp only[ak,aN,bH,dW,aJ,eJ,Nat.reduceAdd]<;>fail)|fail)only[I8,I4,Ew,Gz,Dr,Kp,Eu,Gw,Et,SQ,Gy,I5,Mk,Ml,I7,Gx])<;>rfl)|rfl):p:=h▸hq
section
variable{α:Type}{f:α->D}{e:Nat}
theorem iV.fz[sW f e]{k0 t n:Nat}{x:AV}{s:iM}{ds:List D}(id:Nat)(f':α->D)(hf:f'=f)(xs:List α)(ho:sat s id=.lZ t e n ds:=by exact rfl)(hid:k0<=id:=by omega)(hn:n=xs.length:=by simp)
 (hs:ds=lF f xs:=by first|rfl|simp only[go_sem,iH,aQ,bO,bR,aF,Nat.reduceAdd,Nat.reduceSub,Nat.reduceLeDiff,Nat.reduceEqDiff,Nat.reduceLT,reduceIte,reduceCtorEq]):iV k0 x s (x.pX id (xs.map f')) (wO id (xs.map f') s):=iV.agy id f' hf xs hid ho hn hs
theorem iW.fz[sW f e]{k0 t n:Nat}{env:List AV}{s:iM}{ds:List D}(id:Nat)(f':α->D)(hf:f'=f)(xs:List α)(ho:sat s id=.lZ t e n ds:=by exact rfl)(hid:k0<=id:=by omega)(hn:n=xs.length:=by simp)
 (hs:ds=lF f xs:=by first|rfl|simp only[go_sem,iH,aQ,bO,bR,aF,Nat.reduceAdd,Nat.reduceSub,Nat.reduceLeDiff,Nat.reduceEqDiff,Nat.reduceLT,reduceIte,reduceCtorEq]):iW k0 env s (AV.sK id (xs.map f') env) (wO id (xs.map f') s):=iW.Wa id f' hf xs hid ho hn hs
end
def Iter(P:Program)(gf:Nat)(caps:List AV)(els:List (List D)):Prop:=
 AV.ji (fun _=>none) caps=caps/\(∀args w,(callFunc gf args).run P w=.ok (.enter gf args) w)/\
 ∀(O:Own)(W:World)(lb:Array Value),AV.jk (fun _=>.no) O W caps lb.toList->(∀b o,O b o->b<W.heap.size)->
  ∀(l:Nat)(J Jx:Nat->Own->World->Prop),
   (∀i X A B row,J i X A->A.grownBy B row->(∀r,row=some r->W.heap.size<=r/\∃o:Obj,A.heap[r]?=some o/\Fu o)->J i X B)->
   (∀i X A B row,Jx i X A->A.grownBy B row->(∀r,row=some r->W.heap.size<=r/\∃o:Obj,A.heap[r]?=some o/\Fu o)->Jx i X B)->
   (∀i X W1 (vs:Array Value),i<els.length->J i X W1->AV.jk (fun _=>.no) X W1 ((els.getD i []).map .d) vs.toList->YieldAt Fence.wide 0 P l vs W1 fun e W'=>∃X',
    ((e=.returned (.bool true)/\J (i+1) X' W')\/(e=.returned (.bool false)/\Jx (i+1) X' W'))/\(∀b o,X' b o->b<W'.heap.size)/\
    ∀b o v,W1.cell? ⟨b,o,none⟩=some v->¬X b o->W'.cell? ⟨b,o,none⟩=some v/\¬X' b o)->
   J 0 O W->
   CallsIn Fence.wide 0 P gf (#[.func (.yield l) #[] #[]]++lb) W fun e W'=>(∃v,e=.returned v)/\((∃X,J els.length X W')\/∃m X,m<els.length/\Jx (m+1) X W')
def yZ(K:Nat):Nat->Option Nat:=fun i=>if i<K then some i else none
theorem Ox{β β':i_}{O:Own}{w:World}:∀{xs:List D}{vs:List Value},AV.jk β O w (xs.map .d) vs->AV.jk β' O w (xs.map .d) vs
 |[],vs=>fun h=>by simpa[AV.jk]using h
 |x::xs,vs=>fun h=>by
  simp only[aK,AV.jk,AV.ok]at h⊢;obtain⟨v,r,h1,h2,h3⟩:=h;exact⟨v,r,h1,h2,Ox h3⟩
theorem Inv.stays{C:Ctx}{β:i_}{s:iM}{w:World}(h:Inv C β s w):∀b o v,C.w.cell? ⟨b,o,none⟩=some v->¬C.iN C.β C.s b o->w.cell? ⟨b,o,none⟩=some v/\¬C.iN β s b o:=by
 intro b o v hc hn;refine⟨h.keep b o v hc fun h2=>hn (.inr h2),fun h2=>?_⟩;rcases h2 with h2|h2
 ·exact hn (.inl h2)
 ·rcases h.qz b o h2 with h3|h3
  ·exact hn (.inr h3)
  ·have:=qR hc;omega
def vo(C:Ctx)(β:i_)(env:List AV)(s:iM)(a:Act)(w:World):Prop:=∀i x,env[i]?=some x->AV.ok β (C.iN β s) w x (a.tmps.getD i undef)
theorem vo.later{C:Ctx}{β:i_}{env:List AV}{s:iM}{a:Act}{w:World}(hfix:AV.ji (yZ C.k) env=env)(h:Inv C β s w)(he:vo C C.β env C.s a C.w):vo C β env s a w:=by
 intro i x hx;have h1:AV.ok (fun id=>if id<C.k then C.β id else .no) (C.iN C.β C.s) C.w (x.jY (yZ C.k)) (a.tmps.getD i undef):=
  AV.xo (fun i j hij=>by
   unfold yZ at hij;split at hij
   ·rename_i hlt;cases hij;simp[hlt]
   ·cases hij) x _ (he i x hx)
 have h2:x.jY (yZ C.k)=x:=by
  have h3:(AV.ji (yZ C.k) env)[i]?=(env[i]?).map (AV.jY (yZ C.k)):=qH _ _ _;rw[hfix,hx]at h3;simpa using h3.symm
 rw[h2]at h1;refine AV.kA h.stays (fun id=>?_) _ _ h1;by_cases hlt:id<C.k
 ·simp only[hlt,aA];exact h.pl id hlt
 ·simp only[hlt,aE];trivial
theorem vo.sv{C:Ctx}{β:i_}{env:List AV}{s:iM}{a:Act}{w w':World}{row:Option Nat}(h:vo C β env s a w)(hg:w.grownBy w' row)
 (hr:∀r,row=some r->∃o:Obj,w.heap[r]?=some o/\Fu o):vo C β env s a w':=
 fun i x hx=>AV.kA (fun _ _ _ hc hn=>⟨eT hc hg (FD hr),hn⟩) (fun _=>.refl _) _ _ (h i x hx)
theorem Marks.now{C:Ctx}{β:i_}{s:iM}{w:World}{ds:List Deferred}(h:Marks C ds)(hi:Inv C β s w):
 ∃Ds:List Nat,ds=Ds.map BH/\Ds.Nodup/\∀D∈Ds,C.dom<=D/\D<C.w.heap.size/\w.heap[D]?=some (.deferred (some [])):=
 let⟨_,Ds,h1,h2,h3⟩:=h
 ⟨Ds,h1,h2,fun D hD=>let⟨h4,h5,h6,h7⟩:=h3 D hD;⟨h4,h5,(hi.pU D h5 h7).trans h6⟩⟩
theorem Marks.mk'{C C1:Ctx}{β:i_}{s:iM}{w:World}(hi:Inv C β s w)(hnm:C1.nm=false)(h1:C1.β=β)(h2:C1.s=s)(h3:C1.w=w){Ds:List Nat}(hn:Ds.Nodup)
 (hD:∀D∈Ds,C1.dom<=D/\w.heap[D]?=some (.deferred (some []))):Marks C1 (Ds.map BH):=
 ⟨(fun h=>by rw[hnm]at h;cases h),Ds,rfl,hn,fun D hd=>let⟨h4,h5⟩:=hD D hd;⟨h4,by rw[h3];exact(aW.1 h5).1,by rw[h3];exact h5,fun id hb=>by
  rw[h1,h2]at hb;exact hi.isCells hb h5 ⟨rfl,rfl⟩⟩⟩
theorem St.ae6{C:Ctx}{β:i_}{s:iM}{w:World}:∀{ps:List Nat}{xs:List D}{vs:List Value}{env:List AV}{a:Act},St C β env s a w->AV.jk β (C.iN β s) w (xs.map .d) vs->
 St C β (qG env (ps.zip (xs.map .d))) s {a with tmps:=(ps.zip vs).foldl (fun t (p,v)=>t.setIfInBounds p v) a.tmps} w
 |[],xs,vs,env,a=>fun h _=>by simpa[qG]using h
 |p::ps,[],vs,env,a=>fun h hv=>by
  simp only[cJ,AV.jk]at hv;subst hv;simpa[qG]using h
 |p::ps,x::xs,vs,env,a=>fun h hv=>by
  simp only[aK,AV.jk]at hv;obtain⟨v,r,rfl,h1,h2⟩:=hv;have:=St.ae6 (ps:=ps) (a:=a.put (some p) v) (h.put h1 (some p)) h2;simpa[qG,Act.put]using this
section
variable{P:Program}{k:Nat}{Q:Post}{env:List AV}{s:iM}
def HS{ι:Type}(K:Nat)(env:List AV)(S:ι->iM)(next:ι->Prop)(Q:Post):Post
 |.normal,env',s'=>∃i',next i'/\∃env'',iW K env' s' env'' (S i')
 |.ret,env',s'=>∃s'',(∃env'',iW K env' s' env'' s'')/\Q .ret env s''
 |.exit id,env',s'=>∃s'',(∃env'',iW K env' s' env'' s'')/\Q (.exit id) env s''
 |_,_,_=>False
theorem ac5{g:Operand}{ps:List Nat}{x y:iJ}{gf:Nat}{caps:List AV}{els:List (List D)}{ι:Type}(K:Nat)(hK:k<=K)(hfix:AV.ji (yZ K) env=env)
 (hflat:x.flat=true/\y.flat=true) (hg:ev env g=.fn gf [] caps) (it:Iter P gf caps els) (hps:∀i,i<els.length->(els.getD i []).length=ps.length)
 (S:ι->iM) (pos:ι->Nat) (inv:ι->Prop) (i0:ι) (h0:inv i0) (hp0:pos i0=0) (hw:iW k env s env (S i0))
 (round:∀i,inv i->pos i<els.length->oR P K x (AB (fun env1 s1=>oR P K y (HS K env S (fun i'=>inv i'/\pos i'=pos i+1) Q) env1 s1) fun _ _ _=>False)
  (qG env (ps.zip ((els.getD (pos i) []).map .d))) (S i))
 (done:∀i,inv i->pos i=els.length->Q .normal env (S i)):oR P k (.HR g ps x y) Q env s:=fun C hC hf c hc β a w hst=>by
 have hpl:C.plain:=by
  rcases hf with h|h
  ·simp[iJ.flat]at h
  ·exact h
 obtain⟨hro,hnm,hdom⟩:=hpl;obtain⟨ps',ca,cb,rfl,hps',hx,hy⟩:=Ts hc;obtain⟨β0,hst0⟩:=hw C β a w hC hst;have hF:C.qt=Fence.wide:=by unfold Ctx.qt;rw[hro];rfl
 have hgv:=hst0.ev g;rw[hg]at hgv;simp only[AV.ok,AV.jk]at hgv;obtain⟨fs,lb,hgv,hfs,hlb⟩:=hgv;have hfs:fs=#[]:=dN (by simpa using hfs);subst hfs;obtain⟨hids,henter,hit⟩:=it;have hbnd:∀{β:i_}{s:iM}{w:World},Inv C β s w->∀b o,C.iN β s b o->b<w.heap.size:=fun h b o hb=>by
  rcases hb with hb|hb
  ·exact ct (h.low b o hb).1 h.size
  ·exact h.G0 hb
 let Cw:Ctx:={C with β:=β0,s:=S i0,w:=w,k:=C.k};have hCw:∀{β s w'},Inv Cw β s w'->Inv C β s w':=fun h=>hst0.inv.back h (aC _)
 have hforb:∀(C':Ctx) β s,C'.O=C.O->C'.iN β s=C.iN β s:=fun C' β s h=>by unfold Ctx.iN;rw[h]
 refine wpIn_rangeFunc fun fn hfn=>?_
 have hfr:C.qt.round=none:=hro;rw[hfr];obtain⟨rec,hrec⟩:∃rec:LoopState->Option Code->Loop,rec=fun st pe=>{state:=st,pending:=pe,fn,tmps:=a.tmps,params:=ps',assign:=ca,body:=cb,defers:=w.heap.size}:=⟨_,rfl⟩
 obtain⟨W1,hW1⟩:∃W1,(w.alloc (.deferred (some []))).alloc (.loop (rec .ready none))=W1:=⟨_,rfl⟩;have hg1:w.grownBy W1 none:=by
  rw[<-hW1];exact⟨rfl,rfl,rfl,by simp;omega,fun j hj _=>(cr _ _ _ (by simp;omega)).trans (cr w _ j hj)⟩
 have hL1:W1.heap[w.heap.size+1]?=some (.loop (rec .ready none)):=by rw[<-hW1];have:=eX (w.alloc (.deferred (some []))) (.loop (rec .ready none));rwa [World.size_alloc]at this
 have hK1:W1.heap[w.heap.size]?=some (.deferred (some [])):=by rw[<-hW1];exact(cr _ _ _ (by simp)).trans (eX w _)
 have hcall:=hit (C.iN β0 (S i0)) W1 lb (by
  have:=AV.yF (β':=fun _=>.no) (ρ:=fun _=>none) (fun i j h=>by cases h) _ _ hlb;rw[hids]at this;exact AV.jU (fun b o v hc hn=>⟨by rw[cL (hg1.block b (qR hc) (by simp))];exact hc,hn⟩) (fun _=>.refl _) _ _ this)
  (fun b o h=>ct (hbnd hst0.inv b o h) hg1.size)
 let Jn:Nat->Own->World->Prop:=fun n X W=>(∃j,inv j/\pos j=n/\∃β',X=C.iN β' (S j)/\Inv Cw β' (S j) W/\vo C β' env (S j) a W/\∀b o v,W1.cell? ⟨b,o,none⟩=some v->¬C.iN β0 (S i0) b o->W.cell? ⟨b,o,none⟩=some v/\¬X b o)/\
  W.heap[w.heap.size+1]?=some (.loop (rec .ready none))/\W.heap[w.heap.size]?=some (.deferred (some []))
 let Jx:Nat->Own->World->Prop:=fun _ _ W=>∃jump s'' β',((jump=.ret/\Q .ret env s'')\/∃id,jump=.exit id/\Q (.exit id) env s'')/\Inv Cw β' s'' W/\vo C β' env s'' a W/\
  W.heap[w.heap.size+1]?=some (.loop (rec .done (some jump)))/\W.heap[w.heap.size]?=some (.deferred (some []))
 have hsz1:W1.heap.size=w.heap.size+2:=by rw[<-hW1];simp
 have gK:∀{A B:World}{row:Option Nat}{i:Nat}{o:Obj},A.grownBy B row->(∀r,row=some r->W1.heap.size<=r)->i<w.heap.size+2->A.heap[i]?=some o->B.heap[i]?=some o:=
  fun hg hr hi h=>(hg.block _ (aW.1 h).1 (fun e=>by have:=hr _ e.symm;omega)).trans h
 have hJn:∀i X A B row,Jn i X A->A.grownBy B row->(∀r,row=some r->W1.heap.size<=r/\∃o:Obj,A.heap[r]?=some o/\Fu o)->Jn i X B:=fun i X A B row ⟨⟨j,h1,h2,β',h0,h3,h4,h7⟩,h5,h6⟩ hg hr=>
  ⟨⟨j,h1,h2,β',h0,h3.sv hg (fun r e=>⟨by have:=(hr r e).1;show w.heap.size<=r;omega,(hr r e).2⟩),h4.sv hg (fun r e=>(hr r e).2),fun b o v k1 k2=>⟨eT (h7 b o v k1 k2).1 hg (FD fun r e=>(hr r e).2),(h7 b o v k1 k2).2⟩⟩,
   gK hg (fun r e=>(hr r e).1) iA h5,gK hg (fun r e=>(hr r e).1) iA h6⟩
 have hJx:∀i X A B row,Jx i X A->A.grownBy B row->(∀r,row=some r->W1.heap.size<=r/\∃o:Obj,A.heap[r]?=some o/\Fu o)->Jx i X B:=fun i X A B row ⟨jump,s'',β',h1,h3,h4,h5,h6⟩ hg hr=>
  ⟨jump,s'',β',h1,h3.sv hg (fun r e=>⟨by have:=(hr r e).1;show w.heap.size<=r;omega,(hr r e).2⟩),h4.sv hg (fun r e=>(hr r e).2),gK hg (fun r e=>(hr r e).1) iA h5,gK hg (fun r e=>(hr r e).1) iA h6⟩
 have own2:∀{A:World}{i:Nat}{o:Obj}(o':Obj),w.heap.size<=i->A.heap[i]?=some o->Fu o->∀r,some i=some r->Cw.w.heap.size<=r/\∃o:Obj,A.heap[r]?=some o/\Fu o:=
  fun{A i o} _ h1 h2 h3 r e=>by cases e;exact⟨h1,o,h2,h3⟩
 refine⟨w.heap.size+1,[BH w.heap.size],W1,{target:=.fn (.func gf) lb,args:=#[.func (.yield (w.heap.size+1)) #[] #[]]},W1,gf,
  #[.func (.yield (w.heap.size+1)) #[] #[]]++lb,W1,?_,?_,?_,?_,fun h=>by simp[Ctx.qt]at h,?_⟩
 ·rw[<-hW1,hrec];exact run_enterLoop_outer _ _ _ _ _
 ·simp only[resolve,hgv];simp[go_sem]
 ·exact fun _ _=>trivial
 ·simp[invoke,go_sem,henter]
 ·rw[hF];refine(hcall (w.heap.size+1) Jn Jx hJn hJx ?_
   ⟨⟨i0,h0,hp0,β0,rfl,(hst0.inv.here).sv hg1 (fun r e=>by cases e),vo.sv (fun i x hx=>hst0.env i x hx) hg1 (fun r e=>by cases e),fun b o v k1 k2=>⟨k1,k2⟩⟩,hL1,hK1⟩).mono ?_
  ·-- a round
   rintro i X W ev hi ⟨⟨j,hj,hpj,β1,rfl,hinv,henv,hkp⟩,hl,hk⟩ hevs;have hyv:=run_yield (P:=P) (args:=ev) hl (by
    have h1:=AV.jy hevs;have h2:=hps i hi;rw[hrec];show ev.size=ps'.size;rw[aJ,h2,<-hps']at h1;simpa using h1)
   rw[hrec]at hyv;refine⟨fn,_,ca,cb,hyv,roundIn_of_wpIn trivial ?_⟩;let C2:Ctx:={C with β:=β1,s:=S j,w:=W,k:=K,ro:=some (w.heap.size+1),dom:=0,nm:=false};have hinvC:Inv C β1 (S j) W:=hCw hinv;have hinv2:Inv C2 β1 (S j) W:=(hinvC.here (K:=K)).ro _ _;have hst2:St C2 β1 env (S j) {tmps:=a.tmps,defers:=[]} W:=⟨.nil,hinv2,hst0.len,henv⟩;have henc:AV.jk β1 (C2.iN β1 (S j)) W (((els.getD i []).map .d)) ev.toList:=by
    refine Ox (β:=fun _=>.no) ?_;rw[hforb C2 β1 (S j) rfl];exact hevs
   have hst3:=St.ae6 (ps:=ps) hst2 henc;have hi':=hpj▸hi;have hrnd:=round j hj hi';rw[hpj]at hrnd;have hass:=hrnd C2 rfl (.inl hflat.1) ca hx β1 _ W hst3;have hfold:(ps.zip ev.toList).foldl (fun t (p,v)=>t.setIfInBounds p v) a.tmps=(ps'.zip ev).foldl (fun t (p,v)=>t.setIfInBounds p v) a.tmps:=by rw[<-hps',<-Array.foldl_toList,Array.toList_zip]
   show ca.wpIn C2.qt 0 P _ {tmps:=(ps'.zip ev).foldl (fun t (p,v)=>t.setIfInBounds p v) a.tmps,defers:=[]} W;rw[<-hfold];refine dM hass fun e a3 W3 he=>?_
   obtain⟨C3,hx3,β3,env3,s3,hst3',hq⟩:=he;cases e with
   |normal=>
    have hq:oR P K y (HS K env S (fun i'=>inv i'/\pos i'=pos j+1) Q) env3 s3:=by rw[hpj];exact hq
    have hI2:Inv C2 β3 s3 W3:=hx3.inv _ _ _ hst3'.inv;have keep3:∀{i:Nat}{o:Obj},W.heap[i]?=some o->Fu o->W3.heap[i]?=some o:=fun{i o} h h'=>
     (hI2.pU i (aW.1 h).1 fun id hb=>hinvC.isCells hb h h').trans h
    have hl3:=keep3 hl ⟨rfl,rfl⟩;have hk3:=keep3 hk ⟨rfl,rfl⟩;have hIw3:Inv Cw β3 s3 W3:=hinv.back (K:=K) (hI2.ro' (C:={Cw with β:=β1,s:=S j,w:=W,k:=K})) (by show C.k<=K;omega);refine⟨_,run_beginRound hl3 (by rw[hrec]),?_⟩;have hg4:=e_ W3 (w.heap.size+1) (.loop {rec .ready none with state:=.busy});have hr4:=own2 (A:=W3) (.loop {rec .ready none with state:=.busy}) (gA _) hl3 ⟨rfl,rfl⟩;generalize hW4:W3.putObj (w.heap.size+1) (.loop {rec .ready none with state:=.busy})=W4 at hg4⊢;have hl4:W4.heap[w.heap.size+1]?=some (.loop {rec .ready none with state:=.busy}):=by rw[<-hW4];exact World.putObj_heap_same (aW.1 hl3).1
    have hk4:W4.heap[w.heap.size]?=some (.deferred (some [])):=by rw[<-hW4];exact(dr iA).trans hk3
    have hIw4:Inv Cw β3 s3 W4:=hIw3.sv hg4 hr4;let C4:Ctx:={C with β:=β3,s:=s3,w:=W4,k:=K,ro:=some (w.heap.size+1),dom:=0,nm:=false};have hI4:Inv C4 β3 s3 W4:=((hCw hIw4).here (K:=K)).ro _ _;have hmk4:Marks C4 a3.defers:=by
     obtain⟨Ds,h1,h2,h3⟩:=hst3'.defers.now hst3'.inv;rw[h1];refine Marks.mk' hIw4 rfl rfl rfl rfl h2 fun D hD=>⟨cS _,?_⟩
     have h4:=(h3 D hD).2.2;rw[<-hW4];refine(dr fun e=>?_).trans h4;rw[e,hl3]at h4;cases h4
    have hst4:St C4 β3 env3 s3 a3 W4:=⟨hmk4,hI4,hst3'.len,fun t x hx=>by
     have h1:=hst3'.env t x hx;rw[hx3.iN]at h1;exact AV.kA (fun b o v hc hn=>⟨eT hc hg4 (FD fun r e=>(hr4 r e).2),hn⟩) (fun _=>.refl _) _ _ h1⟩
    have henv3:vo C2 β3 env s3 a W3:=vo.later (C:=C2) hfix hI2 henv;have henv4:vo C β3 env s3 a W4:=vo.sv (C:=C) henv3 hg4 fun r e=>(hr4 r e).2
    have hbody:=hq C4 rfl (.inl hflat.2) cb hy β3 _ W4 hst4;refine dM hbody fun e a5 W5 he=>?_
    obtain⟨C5,hx5,β5,env5,s5,hst5,hq5⟩:=he;have fin:∀(jump:Option Code)(β6:i_)(s6:iM),Inv C4 β6 s6 W5->∃W6,(Instr.endRound (w.heap.size+1) jump).run P W5=.ok (.bool jump.isNone) W6/\
     W6.heap[w.heap.size+1]?=some (.loop (rec (if jump.isNone then .ready else .done) jump))/\W6.heap[w.heap.size]?=some (.deferred (some []))/\Inv Cw β6 s6 W6/\vo C β6 env s6 a W6/\
     (∀b o,C.iN β6 s6 b o->b<W6.heap.size)/\∀b o v,W.cell? ⟨b,o,none⟩=some v->¬C.iN β1 (S j) b o->W6.cell? ⟨b,o,none⟩=some v/\¬C.iN β6 s6 b o:=fun jump β6 s6 hI6=>by
     have keep5:∀{i:Nat}{o:Obj},W4.heap[i]?=some o->Fu o->W5.heap[i]?=some o:=fun{i o} h h'=>
      (hI6.pU i (aW.1 h).1 fun id hb=>hIw4.isCells hb h h').trans h
     have hl5:=keep5 hl4 ⟨rfl,rfl⟩;have hk5:=keep5 hk4 ⟨rfl,rfl⟩;have hrun:=run_endRound (P:=P) jump hl5;have hg6:=e_ W5 (w.heap.size+1) (.loop (rec (if jump.isNone then .ready else .done) jump));have hr6:=own2 (A:=W5) (.loop (rec (if jump.isNone then .ready else .done) jump)) (gA _) hl5 ⟨rfl,rfl⟩;have hIw5:Inv Cw β6 s6 W5:=hIw4.back (K:=K) (hI6.ro' (C:={Cw with β:=β3,s:=s3,w:=W4,k:=K})) (by show C.k<=K;omega);refine⟨_,by rw[hrec]at hrun⊢;exact hrun,World.putObj_heap_same (aW.1 hl5).1,(dr iA).trans hk5,hIw5.sv hg6 hr6,?_,hbnd (hCw (hIw5.sv hg6 hr6)),?_⟩
     ·have h5:vo C4 β6 env s6 a W5:=vo.later (C:=C4) hfix hI6 henv4;exact vo.sv (C:=C) h5 hg6 fun r e=>(hr6 r e).2
     ·intro b o v h3 k1;have k2:=hI2.stays b o v h3 k1;have k3:W4.cell? ⟨b,o,none⟩=some v:=eT k2.1 hg4 (FD fun r e=>(hr4 r e).2);have k4:=hI6.stays b o v k3 k2.2;exact⟨eT k4.1 hg6 (FD fun r e=>(hr6 r e).2),k4.2⟩
    have hk5:C5.k=K:=hx5.k;cases e with
    |normal=>
     obtain⟨j',⟨hj',hpj'⟩,_,hwk⟩:=hq5;obtain⟨β6,hst6⟩:=hwk C5 β5 a5 W5 hk5 hst5;obtain⟨W6,hr,h1,h2,h3,h4,h6,h5⟩:=fin none β6 (S j') (hx5.inv _ _ _ hst6.inv);exact⟨_,_,hr,_,.inl ⟨rfl,⟨⟨j',hj',by rw[hpj',hpj],β6,rfl,h3,h4,fun b o v k1 k2=>h5 b o v (hkp b o v k1 k2).1 (hkp b o v k1 k2).2⟩,h1,h2⟩⟩,h6,h5⟩
    |ret=>
     obtain⟨s'',⟨_,hwk⟩,hQ⟩:=hq5;obtain⟨β6,hst6⟩:=hwk C5 β5 a5 W5 hk5 hst5;obtain⟨W6,hr,h1,h2,h3,h4,h6,h5⟩:=fin (some .ret) β6 s'' (hx5.inv _ _ _ hst6.inv);exact⟨_,_,hr,_,.inr ⟨rfl,.ret,s'',β6,.inl ⟨rfl,hQ⟩,h3,h4,h1,h2⟩,h6,h5⟩
    |exit id=>
     obtain⟨s'',⟨_,hwk⟩,hQ⟩:=hq5;obtain⟨β6,hst6⟩:=hwk C5 β5 a5 W5 hk5 hst5;obtain⟨W6,hr,h1,h2,h3,h4,h6,h5⟩:=fin (some (.exit id)) β6 s'' (hx5.inv _ _ _ hst6.inv);exact⟨_,_,hr,_,.inr ⟨rfl,.exit id,s'',β6,.inr ⟨id,rfl,hQ⟩,h3,h4,h1,h2⟩,h6,h5⟩
    |goto l=>exact hq5.elim
    |panic ch=>exact hq5.elim
    |outgrown=>exact hq5.elim
   |exit id=>exact hq.elim
   |goto l=>exact hq.elim
   |ret=>exact hq.elim
   |panic ch=>exact hq.elim
   |outgrown=>exact hq.elim
  ·-- behind the iterator
   have out:∀(β':i_)(s':iM)(W2:World)(st:LoopState)(pe:Option Code),st≠ .busy->Inv Cw β' s' W2->vo C β' env s' a W2->W2.heap[w.heap.size+1]?=some (.loop (rec st pe))->W2.heap[w.heap.size]?=some (.deferred (some []))->
    ∃W3,(Instr.endLoop (w.heap.size+1)).run P W2=.ok pe W3/\∃C',Ext C C'/\St C' β' env s' {a with defers:=[BH w.heap.size]++a.defers} W3:=fun β' s' W2 st pe hst hI hE hl hk=>by
    have hrun:=run_endLoop (P:=P) hl (by rw[hrec];exact hst);have hg3:=e_ W2 (w.heap.size+1) (.loop {rec st pe with state:=.exhausted});have hr3:=own2 (A:=W2) (.loop {rec st pe with state:=.exhausted}) (gA _) hl ⟨rfl,rfl⟩;have hI3:Inv Cw β' s' (W2.putObj (w.heap.size+1) (.loop {rec st pe with state:=.exhausted})):=hI.sv hg3 hr3;have hE3:vo C β' env s' a (W2.putObj (w.heap.size+1) (.loop {rec st pe with state:=.exhausted})):=vo.sv (C:=C) hE hg3 fun r e=>(hr3 r e).2
    have hk3:(W2.putObj (w.heap.size+1) (.loop {rec st pe with state:=.exhausted})).heap[w.heap.size]?=some (.deferred (some [])):=(dr iA).trans hk;have hpe:(rec st pe).pending=pe:=by rw[hrec]
    generalize W2.putObj (w.heap.size+1) (.loop {rec st pe with state:=.exhausted})=W3 at hrun hI3 hE3 hk3;rw[hpe]at hrun;refine⟨W3,hrun,?_⟩;have hIC:Inv C β' s' W3:=hCw hI3;refine⟨{C with β:=β',s:=s',w:=W3,k:=C.k},⟨hIC.size,rfl,rfl,rfl,rfl,rfl,fun β s w h=>hIC.back h (aC _)⟩,?_,hIC.here,hst0.len,hE3⟩;obtain⟨Ds,h1,h2,h3⟩:=hst0.defers.now hIC;have hsz:=hst0.inv.size;show Marks _ (BH w.heap.size::a.defers);rw[h1,<-aK];refine Marks.mk' (C1:={C with β:=β',s:=s',w:=W3,k:=C.k}) hIC hnm rfl rfl rfl (bX.2 ⟨fun hm=>?_,h2⟩) fun D hD=>?_
    ·have:=(h3 _ hm).2.1;omega
    ·rcases bA.1 hD with rfl|hD
     ·exact⟨by show C.dom<=w.heap.size;omega,hk3⟩
     ·exact⟨(h3 D hD).1,(h3 D hD).2.2⟩
   rintro e W2 ⟨⟨v,rfl⟩,(⟨X,⟨j,hj,hpj,β',_,hI,hE,_⟩,hl,hk⟩|⟨m,X,_,jump,s'',β',hQ,hI,hE,hl,hk⟩)⟩
   ·obtain⟨W3,hr,C',hxt,hst'⟩:=out β' (S j) W2 .ready none (by simp) hI hE hl hk;exact⟨none,W3,hr,C',hxt,β',env,S j,hst',done j hj hpj⟩
   ·obtain⟨W3,hr,C',hxt,hst'⟩:=out β' s'' W2 .done (some jump) (by simp) hI hE hl hk;refine⟨some jump,W3,hr,?_⟩;rcases hQ with⟨rfl,hQ⟩|⟨id,rfl,hQ⟩
    ·exact wpIn_ret ⟨C',hxt,β',env,s'',hst',hQ⟩
    ·exact wpIn_exit ⟨C',hxt,β',env,s'',hst',hQ⟩
theorem MK{σ β:Type}{f:Nat×σ->Option ((Nat×σ)⊕β)}{s0:σ}{b:β}(hb:iL f (0,s0)=some b){g:Operand}{ps:List Nat}{x y:iJ}{gf:Nat}{caps:List AV}{els:List (List D)}(K:Nat)
 (hK:k<=K) (hfix:AV.ji (yZ K) env=env) (hflat:x.flat=true/\y.flat=true) (hg:ev env g=.fn gf [] caps) (it:Iter P gf caps els) (hps:∀i,i<els.length->(els.getD i []).length=ps.length)
 (S:σ->iM) (hw:iW k env s env (S s0))
 (round:∀j p t,j<els.length->f (j,p)=some t->(∀b',t=.inr b'->b'=b)->
  oR P K x (AB (fun env1 s1=>oR P K y (HS K env S (fun p'=>t=.inl (j+1,p')) Q) env1 s1) fun _ _ _=>False) (qG env (ps.zip ((els.getD j []).map .d))) (S p))
 (done:∀p t,f (els.length,p)=some t->(∀b',t=.inr b'->b'=b)->Q .normal env (S p)):oR P k (.HR g ps x y) Q env s:=by
 obtain⟨n,hn⟩:=tP hb;refine ac5 (ι:=Nat×Nat×σ) K hK hfix hflat hg it hps (fun p=>S p.2.2) (fun p=>p.2.1) (fun p=>wY f p.1 p.2 b/\p.2.1<=els.length) (n,0,s0) ⟨hn,cS _⟩ rfl hw ?_ ?_
 ·rintro⟨m,j,p⟩ ⟨hm,_⟩ hj;cases m with
  |zero=>exact hm.elim
  |succ m=>
   have cv:∀t:(Nat×σ)⊕β,(∀p',t=.inl (j+1,p')->wY f m (j+1,p') b)->∀e env' s',HS K env S (fun p'=>t=.inl (j+1,p')) Q e env' s'->
    HS K env (fun p:Nat×Nat×σ=>S p.2.2) (fun i'=>(wY f i'.1 i'.2 b/\i'.2.1<=els.length)/\i'.2.1=j+1) Q e env' s':=fun t ht e env' s' hq=>by
    cases e with
    |normal=>obtain⟨p',hp,hw⟩:=hq;exact⟨(m,j+1,p'),⟨⟨ht p' hp,hj⟩,rfl⟩,hw⟩
    |_=>exact hq
   rcases hm with hm|⟨p',hm,hr⟩
   ·refine(round j p _ hj hm fun b' hb'=>by cases hb';rfl).mono fun e env' s' hq=>?_
    cases e with
    |normal=>exact oR.mono hq (cv _ fun p' hp=>by cases hp)
    |_=>exact hq
   ·refine(round j p _ hj hm fun b' hb'=>by cases hb').mono fun e env' s' hq=>?_
    cases e with
    |normal=>exact oR.mono hq (cv _ fun p'' hp=>by cases hp;exact hr)
    |_=>exact hq
 ·rintro⟨m,j,p⟩ ⟨hm,_⟩ hj;simp only at hj;subst hj;cases m with
  |zero=>exact hm.elim
  |succ m=>
   rcases hm with hm|⟨p',hm,hr⟩
   ·exact done p _ hm fun b' hb'=>by cases hb';rfl
   ·exact done p _ hm fun b' hb'=>by cases hb'
def Bo{α:Type}[Inhabited α](enc:α->D)(xs:List α):List (List D):=
 (List.range xs.length).map fun(j:Nat)=>[iD ((xs.length:Int)-1-(j:Int)),enc (xs.getD (xs.length-1-j) default)]
theorem Ad{α:Type}[Inhabited α]{enc:α->D}{xs:List α}:(Bo enc xs).length=xs.length:=by simp[Bo]
theorem El{α:Type}[Inhabited α]{enc:α->D}{xs:List α}{j:Nat}(h:j<xs.length):(Bo enc xs).getD j []=[iD ((xs.length:Int)-1-(j:Int)),enc (xs.getD (xs.length-1-j) default)]:=by simp[Bo,List.getD,h]
theorem Wy{α σ β:Type}[Inhabited α]{f:Nat×σ->Option ((Nat×σ)⊕β)}{s0:σ}{b:β}(hb:iL f (0,s0)=some b){g:Operand}{p1 p2:Nat}{x y:iJ}{gf e:Nat}{enc:α->D}{xs:List α}
 (it:Iter P gf [.pv [iH e enc xs]] (Bo enc xs)) (K:Nat) (S:σ->iM) (hw:iW k env s env (S s0))
 (round:∀j p t,j<xs.length->f (j,p)=some t->(∀b',t=.inr b'->b'=b)->
  uy P K x (AB (uy P K y (HS K env S (fun p'=>t=.inl (j+1,p')) Q)) fun _ _ _=>False) (qG env [(p1,.d (iD ((xs.length:Int)-1-(j:Int)))),(p2,.d (enc (xs.getD (xs.length-1-j) default)))]) (S p))
 (done:∀p t,f (xs.length,p)=some t->(∀b',t=.inr b'->b'=b)->Q .normal env (S p))
 (hg:ev env g=.fn gf [] [.pv [iH e enc xs]]:=by rfl) (hK:k<=K:=by omega) (hfix:AV.ji (yZ K) env=env:=by rfl) (hflat:(x.flat&&y.flat)=true:=by rfl):oR P k (.HR g [p1,p2] x y) Q env s:=by
 rw[bh]at hflat;refine MK hb K hK hfix hflat hg it (fun i hi=>?_) S hw (fun j p t hj ht hbt=>?_) (fun p t ht hbt=>done p t (by rwa [Ad]at ht) hbt)
 ·rw[Ad]at hi;rw[El hi];rfl
 ·rw[Ad]at hj;rw[El hj];refine(iB (round j p t hj ht hbt)).mono fun e env' s' hq=>?_
  cases e with
  |normal=>exact iB hq
  |_=>exact hq
theorem aaY{ι:Type}{K:Nat}{env env':List AV}{s':iM}{S:ι->iM}{next:ι->Prop}:HS K env S next Q .normal env' s'=∃i',next i'/\∃env'',iW K env' s' env'' (S i'):=(rfl)
end
attribute [go_sem] aaY
def zV(O:Own)(W:World):Ctx:={O:=O,β:=fun _=>.no,s:=[],w:=W,k:=0,nm:=true}
theorem zV.inv{O:Own}{W:World}(hO:∀b o,O b o->b<W.heap.size):Inv (zV O W) (fun _=>.no) [] W:=
 ⟨aC _,rfl,fun _ _ _ h _=>h,fun _ _ _=>rfl,fun _ _ h=>.inl h,fun id b h=>.inl ⟨id,h⟩,fun _ h=>absurd h (Nat.not_lt_zero _),fun b o h=>⟨hO b o h,fun⟨_,h⟩=>h⟩,fun _=>rfl,fun _ _ _ h=>h.elim⟩
theorem zV.grown{O:Own}{β:i_}{s:iM}{W W':World}(h:Inv (zV O W) β s W'):W.grownBy W' none:=by
 have hio:=h.io;simp only[Cv,dY]at hio;exact⟨hio.1,hio.2.2,hio.2.1,h.size,fun k hk _=>h.pU k hk fun id hb=>hb⟩
theorem St.again{O X:Own}{W W' W2:World}{C':Ctx}{β:i_}{env:List AV}{a:Act}(hx:Ext (zV O W) C')(h:St C' β env [] a W')(hid:AV.ji (fun _=>none) env=env)
 (hX:∀b o,X b o->b<W2.heap.size) (hk:∀b o v,W'.cell? ⟨b,o,none⟩=some v->¬O b o->W2.cell? ⟨b,o,none⟩=some v/\¬X b o):St (zV X W2) (fun _=>.no) env [] a W2 where
 defers:=by rw[h.defers.1 hx.nm];exact .nil
 inv:=zV.inv hX
 len:=h.len
 env:=fun i x hx'=>by
  have h1:=AV.xo (β':=fun _=>.no) (ρ:=fun _=>none) (fun i j h=>by cases h) x _ (h.env i x hx');have h2:x.jY (fun _=>none)=x:=by
   have h3:(AV.ji (fun _=>none) env)[i]?=(env[i]?).map (AV.jY fun _=>none):=qH _ _ _;rw[hid,hx']at h3;simpa using h3.symm
  rw[h2]at h1;refine AV.kA (fun b o v hc hn=>?_) (fun _=>.refl _) _ _ h1;have h4:=hk b o v hc fun hO=>hn (.inl (by rw[hx.O];exact hO))
  refine⟨h4.1,?_⟩;rintro(h|⟨i,h⟩)
  ·exact h4.2 h
  ·exact h
theorem Wm{P:Program}{c:Code}{mc:iJ}{env:List AV}{G:Exit->List AV->Prop}(hc:oA P c=some mc.erase)(hf:mc.flat=true)
 (h:oR P 0 mc (fun e env' s'=>∃env1,iW 0 env' s' env1 []/\AV.ji (fun _=>none) env1=env1/\G e env1) env []) {a:Act} {W:World} {O:Own} (hst:St (zV O W) (fun _=>.no) env [] a W):
 c.wpIn Fence.wide 0 P (fun e a' W'=>W.grownBy W' none/\∃env1,St (zV O W') (fun _=>.no) env1 [] a' W'/\G e env1) a W:=
 dM (h (zV O W) rfl (.inl hf) c hc _ a W hst) fun e a' W' ⟨C',hx,β',env',s',h1,env1,hw,hid,hG⟩=>by
  obtain⟨β2,h2⟩:=hw C' β' a' W' hx.k h1;have hg:=zV.grown (hx.inv _ _ _ h1.inv);exact⟨hg,env1,h2.again hx hid (fun b o h=>ct (hst.inv.low b o h).1 hg.size) (fun b o v h h'=>⟨h,h'⟩),hG⟩
theorem BY{P:Program}{C:Ctx}{ops:Array Oper}{K0:List AV->iM->Prop}{Q:Exit->Act->World->Prop}{m:Nat}:∀(n i:Nat)(ms:List jo)(env:List AV)(s:iM),i+(n+m)=ops.size->
 ((ops.toList.drop i).take n).mapM (sL P ops)=some (ms.map jo.erase)->xA P C.k ms env s K0->∀(β:i_)(a:Act)(w:World),St C β env s a w->
 (∀β' env' s' a' w',St C β' env' s' a' w'->K0 env' s'->wpOpsIn C.qt 0 P ops Q (List.range' (i+n) m) a' w')->wpOpsIn C.qt 0 P ops Q (List.range' i (n+m)) a w
 |0,i,ms,env,s=>fun hi hm hk β a w hst hK=>by
  simp at hm;subst hm;rw[bU];exact hK β env s a w hst hk
 |n+1,i,ms,env,s=>fun hi hm hk β a w hst hK=>by
  have hlt:i<ops.toList.length:=by simp;omega
  rw[ay hlt,cC]at hm;simp only[cx,cu,av]at hm;obtain⟨m0,h1,ms0,h2,h3⟩:=hm;cases ms with
  |nil=>cases h3
  |cons m1 ms'=>
  simp only[aK,dH,aP,bY]at h3;obtain⟨rfl,rfl⟩:=h3;rw[show n+1+m=(n+m)+1 by omega,dQ];simp only[wpOpsIn];have ho:ops[i]?=some ops.toList[i]:=by simp at hlt;simp[hlt]
  rw[ho];simp only;refine xQ (K:=fun env s=>xA P C.k ms' env s K0) h1 ?_ hst fun β' env' s' a' w' h4 h5=>BY n (i+1) ms' env' s' iA h2 h5 β' a' w' h4 fun β'' env'' s'' a'' w'' h6 h7=>?_
  ·simpa only[xA]using hk
  ·have:=hK β'' env'' s'' a'' w'' h6 h7;rwa [show i+(n+1)=i+1+n by omega]at this
structure ItJ(P:Program)(els:List (List D))(l:Nat)(J Jx:Nat->Own->World->Prop):Prop where
 jn:∀i X A B,J i X A->A.grownBy B none->J i X B
 jx:∀i X A B,Jx i X A->A.grownBy B none->Jx i X B
 round:∀i X W1 (vs:Array Value),i<els.length->J i X W1->AV.jk (fun _=>.no) X W1 ((els.getD i []).map .d) vs.toList->YieldAt Fence.wide 0 P l vs W1 fun e W'=>∃X',
  ((e=.returned (.bool true)/\J (i+1) X' W')\/(e=.returned (.bool false)/\Jx (i+1) X' W'))/\(∀b o,X' b o->b<W'.heap.size)/\
  ∀b o v,W1.cell? ⟨b,o,none⟩=some v->¬X b o->W'.cell? ⟨b,o,none⟩=some v/\¬X' b o
def Live(els:List (List D))(J Jx:Nat->Own->World->Prop)(n:Nat)(X:Own)(W:World):Option (List (List D))->Prop
 |some r=>n<=els.length/\els.drop n=r/\J n X W
 |none=>∃m,m<els.length/\Jx (m+1) X W
theorem Live.grow{P:Program}{els:List (List D)}{l:Nat}{J Jx:Nat->Own->World->Prop}(h:ItJ P els l J Jx){n:Nat}{X:Own}{W W':World}{r:Option (List (List D))}(hl:Live els J Jx n X W r)(hg:W.grownBy W' none):Live els J Jx n X W' r:=by
 cases r with
 |some r=>obtain⟨h1,h2,h3⟩:=hl;exact⟨h1,h2,h.jn _ _ _ _ h3 hg⟩
 |none=>obtain⟨m,h1,h2⟩:=hl;exact⟨m,h1,h.jx _ _ _ _ h2 hg⟩
abbrev wX:=Exit->List AV->Option (List (List D))->Prop
def Ft(P:Program)(l:Nat)(mc:iJ)(Q:wX)(env:List AV)(r:Option (List (List D))):Prop:=
 ∀c,oA P c=some mc.erase->∀(els:List (List D))(J Jx:Nat->Own->World->Prop),ItJ P els l J Jx->∀(n:Nat)(X:Own)(a:Act)(W:World),St (zV X W) (fun _=>.no) env [] a W->Live els J Jx n X W r->
  c.wpIn Fence.wide 0 P (fun e a' W'=>∃n' X' env' r',St (zV X' W') (fun _=>.no) env' [] a' W'/\Live els J Jx n' X' W' r'/\Q e env' r') a W
theorem kE{P:Program}{l:Nat}{mc:iJ}{Q:wX}{env:List AV}{r:Option (List (List D))}(hf:mc.flat=true)
 (h:oR P 0 mc (fun e env' s'=>∃env1,iW 0 env' s' env1 []/\AV.ji (fun _=>none) env1=env1/\Q e env1 r) env []):Ft P l mc Q env r:=
 fun c hc els J Jx hJ n X a W hst hl=>dM (Wm hc hf h hst) fun _ _ _ ⟨hg,env1,h1,h2⟩=>⟨n,X,env1,r,h1,hl.grow hJ hg,h2⟩
def adL(P:Program)(l:Nat)(y:iJ)(Q:wX):wX
 |.normal,env,r=>Ft P l y Q env r
 |e,env,r=>Q e env r
theorem mh{P:Program}{l:Nat}{x y:iJ}{Q:wX}{env:List AV}{r:Option (List (List D))}(h:Ft P l x (adL P l y Q) env r):Ft P l (.seq x y) Q env r:=
 fun c hc els J Jx hJ n X a W hst hl=>by
  obtain⟨c1,c2,rfl,h1,h2⟩:=KN (x:=x.erase) (y:=y.erase) hc;refine wpIn_seq (dM (h c1 h1 els J Jx hJ n X a W hst hl) fun e a' W' ⟨n',X',env',r',k1,k2,k3⟩=>?_);cases e with
  |normal=>exact k3 c2 h2 els J Jx hJ n' X' a' W' k1 k2
  |exit id=>exact⟨n',X',env',r',k1,k2,k3⟩
  |goto l=>exact⟨n',X',env',r',k1,k2,k3⟩
  |ret=>exact⟨n',X',env',r',k1,k2,k3⟩
  |panic ch=>exact⟨n',X',env',r',k1,k2,k3⟩
  |outgrown=>exact⟨n',X',env',r',k1,k2,k3⟩
def S7(id:Nat)(Q:wX):wX
 |.exit id',env,r=>if id'=id then Q .normal env r else Q (.exit id') env r
 |e,env,r=>Q e env r
theorem vh{P:Program}{l id:Nat}{x:iJ}{Q:wX}{env:List AV}{r:Option (List (List D))}(h:Ft P l x (S7 id Q) env r):Ft P l (.block id x) Q env r:=
 fun c hc els J Jx hJ n X a W hst hl=>by
  obtain⟨c1,rfl,h1⟩:=GQ (x:=x.erase) hc;refine wpIn_block (dM (h c1 h1 els J Jx hJ n X a W hst hl) fun e a' W' ⟨n',X',env',r',k1,k2,k3⟩=>?_);cases e with
  |exit id'=>
   simp only[S7]at k3;simp only[Exit.inBlock];split<;>rename_i hid<;>simp only[hid,aA,aE]at k3<;>exact⟨n',X',env',r',k1,k2,k3⟩
  |normal=>exact⟨n',X',env',r',k1,k2,k3⟩
  |goto l=>exact⟨n',X',env',r',k1,k2,k3⟩
  |ret=>exact⟨n',X',env',r',k1,k2,k3⟩
  |panic ch=>exact⟨n',X',env',r',k1,k2,k3⟩
  |outgrown=>exact⟨n',X',env',r',k1,k2,k3⟩
theorem Mp{P:Program}{l:Nat}{x:iJ}{Q:wX}{env env1:List AV}{r:Option (List (List D))}(hw:iW 0 env [] env1 [])(hid:AV.ji (fun _=>none) env1=env1)(h:Ft P l x Q env1 r):Ft P l x Q env r:=
 fun c hc els J Jx hJ n X a W hst hl=>by
  obtain⟨β',hst'⟩:=hw (zV X W) _ a W rfl hst;exact h c hc els J Jx hJ n X a W (hst'.again (Ext.refl _) hid (fun b o h=>(hst.inv.low b o h).1) fun b o v h h'=>⟨h,h'⟩) hl
def Oa{ι:Type}(E:ι->List AV)(R:ι->Option (List (List D)))(inv:ι->Prop)(Q:wX):wX
 |.normal,env,r=>∃i',inv i'/\iW 0 env [] (E i') []/\r=R i'
 |e,env,r=>Q e env r
theorem EC{P:Program}{l:Nat}{x:iJ}{Q:wX}{env:List AV}{ι:Type}(E:ι->List AV)(R:ι->Option (List (List D)))(inv:ι->Prop)(μ:ι->Nat)(i0:ι)(h0:inv i0)(hw:iW 0 env [] (E i0) [])(hid:∀i,AV.ji (fun _=>none) (E i)=E i)
 (round:∀i,inv i->Ft P l x (Oa E R (fun i'=>inv i'/\μ i'<μ i) Q) (E i) (R i)):Ft P l (.loop x) Q env (R i0):=by
 refine Mp hw (hid i0) fun c hc els J Jx hJ n X a W hst hl=>?_
 obtain⟨c1,rfl,h1⟩:=Iu (x:=x.erase) hc;intro b kk cs hro hb hr;have key:∀m i n X a W,μ i=m->inv i->St (zV X W) (fun _=>.no) (E i) [] a W->Live els J Jx n X W (R i)->
  ∃e a' W',(∃n' X' env' r',St (zV X' W') (fun _=>.no) env' [] a' W'/\Live els J Jx n' X' W' r'/\Q e env' r')/\ArrivesIn (Machine.fenced P Fence.wide) P (lone (b.atR a (.code c1:: .inLoop c1::kk)) cs W) b kk cs e a' W':=by
  intro m;induction m using Nat.strongRecOn with
  |_ m ih=>
   intro i n X a W hn hi hst hl;obtain⟨e,a₁,w₁,hq,harr⟩:=round i hi c1 h1 els J Jx hJ n X a W hst hl b (.inLoop c1::kk) cs hro hb hr;obtain⟨n',X',env',r',k1,k2,hq⟩:=hq;cases e with
   |normal=>
    obtain⟨i',⟨hi',hlt⟩,hwk,rfl⟩:=hq;obtain⟨β2,hst2⟩:=hwk (zV X' w₁) _ a₁ w₁ rfl k1;have hst3:=hst2.again (Ext.refl _) (hid i') (fun b o h=>(k1.inv.low b o h).1) fun b o v h h'=>⟨h,h'⟩
    obtain⟨e₂,a₂,w₂,hq₂,harr₂⟩:=ih (μ i') (hn▸hlt) i' n' X' a₁ w₁ rfl hi' hst3 k2;exact⟨e₂,a₂,w₂,hq₂,.of_steps (StepsIn.trans harr (.one (fq hb hr rfl) stepR_inLoop)) harr₂⟩
   |exit id=>exact⟨_,a₁,w₁,⟨n',X',env',r',k1,k2,hq⟩,.pass (x:=.inLoop c1) rfl (fun _ _=>.inl (by simp)) harr⟩
   |goto l=>exact⟨_,a₁,w₁,⟨n',X',env',r',k1,k2,hq⟩,.pass (x:=.inLoop c1) rfl (fun _ _=>.inl (by simp)) harr⟩
   |ret=>exact⟨_,a₁,w₁,⟨n',X',env',r',k1,k2,hq⟩,.pass (x:=.inLoop c1) rfl (fun _ _=>.inl (by simp)) harr⟩
   |panic ch=>exact⟨_,a₁,w₁,⟨n',X',env',r',k1,k2,hq⟩,.pass (x:=.inLoop c1) rfl (fun _ _=>.inl (by simp)) harr⟩
   |outgrown=>exact⟨_,a₁,w₁,⟨n',X',env',r',k1,k2,hq⟩,.pass (x:=.inLoop c1) rfl (fun _ _=>.inl (by simp)) harr⟩
 obtain⟨e,a',W',hq,harr⟩:=key _ i0 n X a W rfl h0 hst hl;exact⟨e,a',W',hq,.of_steps (.one (fq hb hr rfl) stepR_loop) harr⟩
theorem IJ{P:Program}{o:Oper}{c:Call}{ρ:Operand->Value}{w:World}{l:Nat}(hop:o.op=.call c){g:Operand}(hc:c.callee=.value g)(hg:ρ g=.func (.yield l) #[] #[]):
 (execOp ρ o).run P w=(Instr.yield l (c.args.map ρ)).run P w:=by
 simp[execOp,hop,resolve,hc,hg,Deferred.ofValue,invoke]
theorem Gn{P:Program}{o:Oper}{g:Operand}{xs:List Operand}(h:kY P o=some (.pJ g xs)):∃c,o.op=.call c/\c.callee=.value g/\c.args.toList=xs:=by
 unfold kY at h
 repeat' split at h
 all_goals first
  |(cases h;done)
  |(simp[av,aB]at h;done)
  |(simp only[aP,vJ.pJ.injEq]at h;obtain⟨rfl,rfl⟩:=h;exact⟨_,by assumption,by assumption,rfl⟩)
theorem Au{α β:Type}{f:α->Option β}:∀{xs:List α}{ys:List β}(n:Nat),xs.mapM f=some ys->(xs.take n).mapM f=some (ys.take n)/\(xs.drop n).mapM f=some (ys.drop n)
 |xs,ys,0,h=>by simpa using h
 |[],ys,n+1,h=>by simp at h;subst h;simp
 |x::xs,ys,n+1,h=>by
  simp only[cx,cu,dH,av]at h;obtain⟨y,h1,r,h2,h3⟩:=h;cases h3;obtain⟨k1,k2⟩:=Au n h2;refine⟨?_,by simpa using k2⟩;simp only[cC,cx,cu,dH,h1,k1,aa]
theorem zV.iN{X:Own}{W:World}:(zV X W).iN (fun _=>.no) []=X:=by funext b o;exact propext ⟨fun h=>h.elim id fun⟨_,h⟩=>h.elim,fun h=>.inl h⟩
theorem N8{P:Program}{l:Nat}{pre post:List jo}{d:Nat}{g:Operand}{args:List Operand}{Q:wX}{env:List AV}{x:List D}{r:List (List D)}
 (hpre:xA P 0 pre env [] (fun env' s'=>∃env1,iW 0 env' s' env1 []/\AV.ji (fun _=>none) env1=env1/\ev env1 g=.d (.lit (.func (.yield l) #[] #[]))/\args.map (ev env1)=x.map .d/\
  ∀b,xA P 0 post (env1.set d (.d (bD b))) [] (fun env' s'=>∃env2,iW 0 env' s' env2 []/\AV.ji (fun _=>none) env2=env2/\Q .normal env2 (if b then some r else none)))):
 Ft P l (.iE (pre++⟨some d,.pJ g args,none⟩::post)) Q env (some (x::r)):=fun c hc els J Jx hJ n X a W hst hl=>by
 obtain⟨rid,ops,rfl,mops⟩:=DF (ms:=(pre++⟨some d,.pJ g args,none⟩::post).map jo.erase) hc;have hlen:ops.size=pre.length+(1+post.length):=by
  have:=(za mops).1;simp at this;omega
 obtain⟨t1,t2⟩:=Au pre.length mops;have e1:(List.map jo.erase (pre++⟨some d,.pJ g args,none⟩::post)).take pre.length=pre.map jo.erase:=by rw[aQ];exact er (by simp)
 have e2:(List.map jo.erase (pre++⟨some d,.pJ g args,none⟩::post)).drop pre.length=(⟨some d,.pJ g args,none⟩::post).map jo.erase:=by rw[aQ];exact List.drop_left' (by simp)
 rw[e1]at t1;rw[e2]at t2;obtain⟨t3,t4⟩:=Au 1 t2;rw[List.drop_drop]at t4;simp only[aK,cC,dA,fP,bN]at t3 t4;have hlt:pre.length<ops.toList.length:=by simp;omega
 rw[ay hlt]at t3;simp only[cC,dA,cx,List.mapM_nil,cu,dH,av,aP]at t3;obtain⟨m0,q6,_,rfl,q6'⟩:=t3;simp only[bY,fZ]at q6';subst q6';have g6:ops[pre.length]?=some ops.toList[pre.length]:=by simp at hlt;simp[hlt]
 generalize ops.toList[pre.length]=o6 at q6 g6;obtain⟨p6,d6,gd6⟩:=xI q6;have hmo6:kY P o6=some (.pJ g args):=by
  cases hq:kY P o6 with
  |some y=>rw[hq]at p6;rw[show y=vJ.pJ g args from p6.symm]
  |none=>rw[hq]at p6;cases p6
 obtain⟨cl,hop6,hcal,hargs6⟩:=Gn hmo6;have hgd6:o6.guard=none:=by
  cases hq:o6.guard with
  |none=>rfl
  |some x=>rw[hq]at gd6;cases gd6
 have hdst6:o6.dst=some d:=d6.symm;obtain⟨hn,hdr,hJn⟩:=hl;have hnl:n<els.length:=by
  rcases cO n els.length with h|h
  ·exact h
  ·rw[bE h]at hdr;cases hdr
 have hx:els.getD n []=x/\els.drop (n+1)=r:=by
  rw[ay hnl]at hdr;simp only[bY]at hdr;exact⟨by rw[List.getD_eq_getElem?_getD,az hnl];exact hdr.1,hdr.2⟩
 refine wpIn_region ?_;rw[hlen,dL];refine BY (C:=zV X W) (m:=1+post.length) pre.length 0 pre _ [] (by rw[hlen];omega) (by rw[bN];exact t1) hpre _ a W hst fun β' env' s' a4 W4 hst4 hK0=>?_
 obtain⟨env4,hw4,hid4,hyv4,hargs4,hpost⟩:=hK0;obtain⟨β4,hst4'⟩:=hw4 (zV X W) β' a4 W4 rfl hst4;have hg4:W.grownBy W4 none:=zV.grown hst4.inv;have hst5:=hst4'.again (W2:=W4) (X:=X) (Ext.refl _) hid4 (fun b o h=>ct (hst.inv.low b o h).1 hg4.size) (fun b o v h h'=>⟨h,h'⟩);have hJ4:=hJ.jn _ _ _ _ hJn hg4;rw[bU,show 1+post.length=post.length+1 by omega,dQ];rw[wpOpsIn];rw[g6];simp only;rw[ah (zK hgd6)];refine⟨fun _ _=>trivial,?_⟩;have hnd:∀c,o6.op≠ .defer c:=by rw[hop6];simp
 have hyv:a4.eval g=.func (.yield l) #[] #[]:=by
  have:=hst5.ev g;rw[hyv4]at this;exact tO this
 rw[eA _ _ _ hnd,IJ (l:=l) hop6 hcal hyv];have hoks:AV.jk (fun _=>.no) X W4 ((els.getD n []).map .d) (cl.args.map a4.eval).toList:=by
  have:=CM hst5 args;rw[hargs4,zV.iN]at this;rw[hx.1,dy,hargs6];exact this
 obtain⟨fn',tmps',dz',bd',hy,hR⟩:=hJ.round n X W4 _ hnl hJ4 hoks;rw[hy,Oper.uponIn_round];refine⟨(fun h=>by cases h),RoundIn.mono hR ?_⟩;rintro e5 W5 ⟨X5,hres5,hX5,hk5⟩;obtain⟨bb,rfl,hJ5⟩:∃bb,e5=.returned (.bool bb)/\Live els J Jx (n+1) X5 W5 (if bb then some r else none):=by
  rcases hres5 with⟨h1,h2⟩|⟨h1,h2⟩
  ·exact⟨true,h1,hnl,hx.2,h2⟩
  ·exact⟨false,h1,n,hnl,h2⟩
 show wpOpsIn Fence.wide 0 P ops _ (List.range' (pre.length+1) post.length) (a4.put o6.dst (.bool bb)) W5;rw[hdst6];have hst6:St (zV X5 W5) (fun _=>.no) (env4.set d (.d (bD bb))) [] (a4.put (some d) (.bool bb)) W5:=
  (hst5.again (Ext.refl _) hid4 hX5 hk5).put (x:=.d (bD bb)) (v:=.bool bb) (by simp[AV.ok,bD,D.ok,one]) (some d)
 have:=BY (C:=zV X5 W5) (Q:=fun e a' W'=>∃n' X' env' r',St (zV X' W') (fun _=>.no) env' [] a' W'/\Live els J Jx n' X' W' r'/\Q e env' r') (m:=0) post.length (pre.length+1) post _ [] (by rw[hlen];omega) (by rw[bI (by simp;omega)];exact t4) (hpost bb) _ _ W5 hst6 fun β' env' s' a7 W7 hst7 hK0=>?_
 ·rw[dh]at this;exact this
 obtain⟨env7,hw7,hid7,hQ7⟩:=hK0;obtain⟨β7,hst7'⟩:=hw7 (zV X5 W5) β' a7 W7 rfl hst7;have hg7:W5.grownBy W7 none:=zV.grown hst7.inv;have hst8:=hst7'.again (W2:=W7) (X:=X5) (Ext.refl _) hid7 (fun b o h=>ct (hX5 b o h) hg7.size) (fun b o v h h'=>⟨h,h'⟩);exact⟨n+1,X5,env7,_,hst8,hJ5.grow hJ hg7,hQ7⟩
theorem I_{P:Program}{gf nt:Nat}{caps:List AV}{els:List (List D)}{mc:iJ}(h:jV P gf mc nt [])(hen:enters P gf=true)(hcaps:AV.ji (fun _=>none) caps=caps)
 (hmc:∀l,Ft P l mc (fun e env' r=>(e=.normal\/e=.ret)/\(r=some []\/r=none)) ([.d (.lit (.func (.yield l) #[] #[]))]++caps++List.replicate (nt-(1+caps.length)) .iO) (some els)):Iter P gf caps els:=by
 refine⟨hcaps,Bu hen,fun O W lb hlb hO l J Jx hJ hJx hround hJ0=>?_⟩;obtain⟨fn,hf,hb,hnt,hres⟩:=h.fn;rw[av]at hb;obtain⟨c,hbody,hm⟩:=hb;have hIt:ItJ P els l J Jx:=⟨fun i X A B h hg=>hJ i X A B none h hg fun r e=>(by cases e),fun i X A B h hg=>hJx i X A B none h hg fun r e=>(by cases e),hround⟩;have hlen:=AV.jy hlb;refine callsIn_of_wp hf hbody trivial ?_;have hst0:St (zV O W) (fun _=>.no) ([.d (.lit (.func (.yield l) #[] #[]))]++caps++List.replicate (nt-(1+caps.length)) .iO) []
  {tmps:=(#[.func (.yield l) #[] #[]]++lb)++Array.replicate (fn.ntmps-(#[.func (.yield l) #[] #[]]++lb:Array Value).size) undef,defers:=[]} W:=by
  rw[hnt];have hsz:lb.size=caps.length:=by simpa using hlen
  refine⟨.nil,zV.inv hO,by simp[hsz];omega,fun i x hx=>?_⟩;rw[zV.iN];rcases i with _|i
  ·simp at hx;subst hx;simp[AV.ok,D.ok,one,fI]
  ·rw[eS]at hx;split at hx
   ·rename_i hi;simp at hi hx;have hi2:i<lb.size:=by omega
    have h1:((#[Value.func (.yield l) #[] #[]]++lb)++Array.replicate (nt-(#[Value.func (.yield l) #[] #[]]++lb:Array Value).size) undef).getD (i+1) undef=lb[i]:=by
     rw[cn,Array.getElem?_append_left (by simp;omega),Array.getElem?_append_right (by simp)];simp[hi2]
    show AV.ok _ _ _ _ (Array.getD _ (i+1) undef);rw[h1];exact(AV.j_.1 hlb).2 i x _ hx (by simp[hi2])
   ·have:x=.iO:=by
     rw[dn]at hx;split at hx
     ·cases hx;rfl
     ·cases hx
    subst this;simp[AV.ok]
 refine dM (hmc l c hm els J Jx hIt 0 O _ W hst0 ⟨cS _,rfl,hJ0⟩) fun e a' W' ⟨n',X',env',r',k1,k2,k3,k4⟩=>?_
 have hR:(∃X,J els.length X W')\/∃m X,m<els.length/\Jx (m+1) X W':=by
  rcases k4 with rfl|rfl
  ·obtain⟨h1,h2,h3⟩:=k2;have:n'=els.length:=by
    have:=bP List.length h2;simp at this;omega
   subst this;exact .inl ⟨X',h3⟩
  ·obtain⟨m,h1,h2⟩:=k2;exact .inr ⟨m,X',h1,h2⟩
 have fin:a'.defers=[]/\∃v,(results fn a'.tmps).run P W'=.ok v W'/\((∃v',Ending.returned v=Ending.returned v')/\((∃X,J els.length X W')\/∃m X,m<els.length/\Jx (m+1) X W')):=by
  refine⟨k1.defers.1 rfl,.tuple #[],?_,⟨_,rfl⟩,hR⟩;have hr0:fn.results.toList=[]:=by
   cases hq:fn.results.toList with
   |nil=>rfl
   |cons x r=>rw[hq]at hres;simp[cx,av]at hres
  rw[CV,ej,hr0];rfl
 rcases k3 with rfl|rfl
 ·exact fin
 ·exact fin
theorem GF{P:Program}{l:Nat}{mc:iJ}{Q:wX}{env:List AV}{r:Option (List (List D))}{p:Prop}(hp:∀X a W,St (zV X W) (fun _=>.no) env [] a W->p)(h:p->Ft P l mc Q env r):Ft P l mc Q env r:=
 fun c hc els J Jx hJ n X a W hst hl=>h (hp X a W hst) c hc els J Jx hJ n X a W hst hl
theorem G3{X:Own}{a:Act}{W:World}{env:List AV}{i e:Nat}{ds:List D}{nl:Option Bool}{cs1 cs2:List D}(hst:St (zV X W) (fun _=>.no) env [] a W)(h:env[i]?=some (.pv (cs1++ .sl e nl ds::cs2))):ds.length<2^63:=by
 have:=hst.env i _ h;simp only[AV.ok]at this;obtain⟨b,o,vs,_,_,h2⟩:=this;have h3:=(D.j_.1 h2).2 cs1.length (.sl e nl ds) (vs.getD cs1.length undef) (by simp) (by
  have hl:=D.jy h2;have:cs1.length<vs.length:=by rw[hl];simp
  simp[List.getD_eq_getElem?_getD,az this])
 simp only[D.ok]at h3;obtain⟨_,a2,cap,_,h4,_⟩:=h3;exact Nat.lt_of_le_of_lt h4.1 h4.2
def X3(e:Nat):List jo:=[⟨some 11,.mv (.tmp 0),none⟩,⟨some 12,.mv (.tmp 3),none⟩,⟨some 13,.load 1 false (.tmp 1),none⟩,⟨some 14,.mv (.tmp 3),none⟩,⟨some 15,.xR e (.tmp 13) (.tmp 14),none⟩,⟨some 16,.load e true (.tmp 15),none⟩]
def abq(e:Nat):iJ:=
 .seq (.iE [⟨some 4,.load 1 false (.tmp 1),none⟩,⟨some 5,.len (.tmp 4),none⟩,⟨some 6,.bin .sub (.tmp 5) (.const (.int .i64 1)),none⟩,⟨some 3,.mv (.tmp 6),none⟩])
  (.block 0 (.loop (.seq (.seq (.iE [⟨some 7,.mv (.tmp 3),none⟩,⟨some 8,.bin .geq (.tmp 7) (.const (.int .i64 0)),none⟩]) (.cond (.tmp 8) .skip (.exit 0)))
   (.seq (.block 1 (.seq (.iE (X3 e++[⟨some 17,.pJ (.tmp 11) [.tmp 12,.tmp 16],none⟩,⟨some 18,.un .not (.tmp 17),none⟩])) (.cond (.tmp 18) .ret .skip)))
    (.iE [⟨some 9,.mv (.tmp 3),none⟩,⟨some 10,.bin .sub (.tmp 9) (.const (.int .i64 1)),none⟩,⟨some 3,.mv (.tmp 10),none⟩])))))
section
attribute [local irreducible] uy zk yt nN mY oR kj C7 D_ BZ D9 Be vL mA oG Dk ju lM Ft
theorem P2{P:Program}{gf e:Nat}{α:Type}[Inhabited α](enc:α->D)(hag:∀x,∃cs,enc x=.agg cs/\cs.length=e)(h:jV P gf (abq e) 19 [])(hen:enters P gf=true)(xs:List α):
 Iter P gf [.pv [iH e enc xs]] (Bo enc xs):=by
 refine I_ h hen rfl fun l=>GF (p:=xs.length<2^63) (fun X a W hst=>by have:=G3 (i:=1) (cs1:=[]) (cs2:=[]) (ds:=xs.map enc) (e:=e) (nl:=none) hst rfl;simpa using this) fun hlen=>?_
 delta abq;refine mh (kE rfl (iB ?_));show uy _ _ _ _ ([.d (.lit (.func (.yield l) #[] #[])),.pv [iH e enc xs]]++List.replicate 17 .iO) [];refine jd ?_;let E:Nat->List AV:=fun j=>[.d (.lit (.func (.yield l) #[] #[])),.pv [iH e enc xs],.iO,.d (iD ((xs.length:Int)-1-(j:Nat)))]++List.replicate 15 .iO
 have hw0:IntKind.i64.wrap ((xs.length:Int)-1)=(xs.length:Int)-1-(0:Nat):=by rw[wrap_i64 iA iA];simp
 rw[hw0];refine⟨E 0,wk,rfl,vh ?_⟩;have hdrop:∀j,j<xs.length->(Bo enc xs).drop j=[iD ((xs.length:Int)-1-(j:Nat)),enc (xs.getD (xs.length-1-j) default)]::(Bo enc xs).drop (j+1):=fun j hj=>by
  have hj':j<(Bo enc xs).length:=by rw[Ad];exact hj
  rw[ay hj'];congr 1;have:=El (enc:=enc) hj;rw[List.getD_eq_getElem?_getD,az hj']at this;exact this
 refine EC E (fun j=>some ((Bo enc xs).drop j)) (fun j=>j<=xs.length) (fun j=>xs.length-j) 0 (cS _) .refl (fun _=>rfl) fun j hj=>?_
 refine mh (kE rfl (iB ?_));show uy _ _ _ _ ([.d (.lit (.func (.yield l) #[] #[])),.pv [iH e enc xs],.iO,.d (iD ((xs.length:Int)-1-(j:Nat)))]++List.replicate 15 .iO) [];by_cases hz:(0:Int)<=(xs.length:Int)-1-(j:Nat)
 ·have hc:decide ((0:Int)<=(xs.length:Int)-1-(j:Nat))=true:=by simpa using hz
  refine uE hc ?_;refine⟨E j,wk,rfl,?_⟩;have hjl:j<xs.length:=by omega
  have hzn:((xs.length:Int)-1-(j:Nat)).toNat=xs.length-1-j:=by omega
  rw[hdrop j hjl];refine mh (vh (mh (N8 (qC ?_))));delta X3;show zk _ _ _ _ ([.d (.lit (.func (.yield l) #[] #[])),.pv [iH e enc xs],.iO,.d (iD ((xs.length:Int)-1-(j:Nat)))]++List.replicate 15 .iO) [];refine jd ?_;repeat(refine CQ iA ?_;refine jd ?_)
  rw[hzn];obtain⟨cs,hcs,hcl⟩:=hag (xs.getD (xs.length-1-j) default);have hd:iI (enc (xs.getD (xs.length-1-j) default))=cs:=by rw[hcs];rfl
  rw[hd];refine⟨iA,?_⟩;rw[bI iA,<-hcs];refine⟨[.d (.lit (.func (.yield l) #[] #[])),.pv [iH e enc xs],.iO,.d (iD ((xs.length:Int)-1-(j:Nat))),.iO,.iO,.iO,.iO,.iO,.iO,.iO,.d (.lit (.func (.yield l) #[] #[])),.d (iD ((xs.length:Int)-1-(j:Nat))),.iO,.iO,.iO,.d (enc (xs.getD (xs.length-1-j) default)),.iO,.iO],wk,rfl,rfl,rfl,fun b=>qC ?_⟩;refine jd ?_;refine⟨[.d (.lit (.func (.yield l) #[] #[])),.pv [iH e enc xs],.iO,.d (iD ((xs.length:Int)-1-(j:Nat)))]++List.replicate 14 .iO++[.d (bD (!b))],wk,rfl,kE rfl (iB ?_)⟩;show uy _ _ _ _ ([.d (.lit (.func (.yield l) #[] #[])),.pv [iH e enc xs],.iO,.d (iD ((xs.length:Int)-1-(j:Nat)))]++List.replicate 14 .iO++[.d (bD (!b))]) [];cases b with
  |false=>refine jd ?_;exact⟨E j,wk,rfl,.inr rfl,.inr rfl⟩
  |true=>
   refine jd ?_;refine⟨E j,wk,rfl,kE rfl (iB ?_)⟩;show uy _ _ _ _ ([.d (.lit (.func (.yield l) #[] #[])),.pv [iH e enc xs],.iO,.d (iD ((xs.length:Int)-1-(j:Nat)))]++List.replicate 15 .iO) [];refine jd ?_;have hw1:IntKind.i64.wrap ((xs.length:Int)-1-(j:Nat)-1)=(xs.length:Int)-1-((j+1:Nat):Int):=by rw[wrap_i64 iA iA];omega
   rw[hw1];exact⟨E (j+1),wk,rfl,j+1,⟨hjl,iA⟩,.refl,rfl⟩
 ·have hc:decide ((0:Int)<=(xs.length:Int)-1-(j:Nat))=false:=by simpa using hz
  refine uE hc ?_;have hjl:j=xs.length:=by omega
  subst hjl;exact⟨E xs.length,wk,rfl,.inl rfl,.inl (by rw[bE (by rw[Ad];exact aC _)])⟩
end
theorem iR.adh{P:Program}{f:Nat}{args:List AV}{g id t:Nat}{d:D}(h:iR P f args [] 0 fun x s'=>x=.fn g [] [.ptr id 0]/\s'=[(id,.obj t [.d d])]):
 iR P f args [] 0 fun x s'=>x=.fn g [] [.pv [d]]/\s'=[]:=fun C vs hs hk hinv hargs=>by
 refine(h C vs hs hk hinv hargs).mono fun e w' ⟨v,x,β',s',he,hi,hx,hxe,hse⟩=>?_
 subst hxe hse;have ho:=hi.obs id;simp only[sat,aA]at ho;obtain⟨b,us,hb,hh,hone,pre,rest,hus,hpre⟩:=ho;simp only[AV.jk]at hpre;obtain⟨u,r,rfl,hu,rfl⟩:=hpre;simp only[AV.ok]at hu;simp only[AV.ok,AV.jk]at hx;obtain⟨fs,cs,rfl,hfs,pv,r2,hcs,⟨b2,hb2,hpv⟩,rfl⟩:=hx;rw[hb]at hb2;cases hb2;have hn:∀b o,¬own (iS β' id .no) [] b o:=fun b o ⟨_,h⟩=>h
 have hsat:∀j,sat (jz id [(id,Ob.obj t [.d d])]) j=sat ([]:iM) j:=fun j=>by
  rw[qc];by_cases hj:j=id
  ·simp[hj,sat]
  ·simp[hj,sat,Ob.kill]
 have hI:Inv C (iS β' id .no) [] w':=by
  have h1:=hi.kill id (by rw[hk];exact cS _);exact⟨h1.size,h1.io,h1.keep,h1.pU,fun b o h=>(hn b o h).elim,fun i b h=>h.elim,h1.pl,h1.low,fun i=>by
   have h2:=h1.obs i;rw[hsat i]at h2;simp only[sat]at h2⊢;exact h2,fun i j b h=>h.elim⟩
 refine⟨_,_,_,_,he,hI,?_,rfl,rfl⟩;have hc:w'.cell? ⟨b,0,none⟩=some u:=by
  simp only[World.cell?,hh,aa];have:us.toList[0]?=some u:=by rw[hus];rfl
  simpa using this
 have hnO:¬C.O b 0:=fun hO=>by
  have h1:=hi.low b 0 hO;have hown:own β' [(id,.obj t [.d d])] b 0:=⟨id,by simp only[sat,aA];exact hb⟩;rcases hi.qz b 0 hown with h2|h2
  ·exact h1.2 h2
  ·omega
 simp only[AV.ok,AV.jk,D.jk];have h1u:one u=true:=hone u (by rw[hus];simp);have hdu:D.ok (C.iN (iS β' id .no) []) w' d u:=D.kA (fun b o v hc hn'=>⟨hc,fun h=>hn' (h.imp (fun h=>h) fun h=>(hn b o h).elim)⟩) _ _ hu;refine⟨fs,cs,rfl,hfs,pv,[],hcs,⟨b,0,[u],hpv,fun j v hj=>?_,u,[],rfl,h1u,hdu,rfl⟩,rfl⟩;cases j with
 |zero=>simp at hj;subst hj;exact⟨hc,fun h=>h.elim hnO (hn _ _),h1u⟩
 |succ j=>simp at hj
section
attribute [local irreducible] uy zk yt nN mY oR kj C7 D_ BZ D9 Be vL mA oG Dk ju lM
def RO(gf t:Nat):iJ:=
 .seq (.iE [⟨some 1,.box 1 t (.tmp 0),none⟩,⟨some 2,.mv (.const .nilFunc),none⟩]) (.seq (.iE [⟨some 3,.EI gf [] [.tmp 1],none⟩,⟨some 2,.mv (.tmp 3),none⟩]) .ret)
theorem LP{P:Program}{f gf t e:Nat}{α:Type}(enc:α->D)(xs:List α)(h:jV P f (RO gf t) 4 [.tmp 2]):
 iR P f [.d (iH e enc xs)] [] 0 fun x s'=>x=.fn gf [] [.pv [iH e enc xs]]/\s'=[]:=by
 refine iR.adh (id:=1) (t:=t) ?_;refine h.oo (iB ?_);delta RO;refine jd ?_;exact⟨[],by simp,nh,nh⟩
end
def TL(nid:Nat)(x y:AV):Prop:=∀(β:i_)(O:Own)(w:World)(v:Value),β nid=.tok uY 0->AV.ok β O w x v->AV.ok β O w y v
def UH(nid:Nat)(xs ys:List AV):Prop:=∀(β:i_)(O:Own)(w:World)(vs:List Value),β nid=.tok uY 0->AV.jk β O w xs vs->AV.jk β O w ys vs
theorem TL.refl{nid:Nat}{x:AV}:TL nid x x:=fun _ _ _ _ _ h=>h
theorem UH.nil{nid:Nat}:UH nid [] []:=fun _ _ _ _ _ h=>h
theorem UH.cons{nid:Nat}{x y:AV}{xs ys:List AV}(h:TL nid x y)(hs:UH nid xs ys):UH nid (x::xs) (y::ys):=fun β O w vs hb hv=>by
 simp only[AV.jk]at hv⊢;obtain⟨v,r,h1,h2,h3⟩:=hv;exact⟨v,r,h1,h β O w v hb h2,hs β O w r hb h3⟩
theorem TL.nil{nid e e0:Nat}:TL nid (.d (.sl e0 (some true) [])) (.kU e nid 0):=fun β O w v hb hv=>by
 simp only[AV.ok]at hv⊢;have:=CR hv;subst this;exact⟨_,_,by rw[hb];exact⟨rfl,rfl⟩,aC _,fun _=>rfl,.inl ⟨none,rfl,trivial⟩⟩
theorem TL.kZ{nid:Nat}{xs ys:List AV}(h:UH nid xs ys):TL nid (.kZ xs) (.kZ ys):=fun β O w v hb hv=>by
 simp only[AV.ok]at hv⊢;obtain⟨vs,h1,h2⟩:=hv;exact⟨vs,h1,h β O w _ hb h2⟩
theorem TL.agg{nid:Nat}{xs ys:List AV}(h:UH nid xs ys):TL nid (.agg xs) (.agg ys):=fun β O w v hb hv=>by
 simp only[AV.ok]at hv⊢;obtain⟨vs,h1,h0,h2⟩:=hv;exact⟨vs,h1,h0,h β O w _ hb h2⟩
theorem Eo{O:Own}{w:World}:∀{xs:List D}{vs:List Value},D.jk O w xs vs->∀u∈vs,one u=true
 |[],vs,h=>by simp[D.jk]at h;subst h;simp
 |x::xs,vs,h=>by
  simp only[D.jk]at h;obtain⟨v,r,rfl,h1,_,h3⟩:=h;intro u hu;rcases bA.1 hu with rfl|hu
  ·exact h1
  ·exact Eo h3 u hu
theorem TL.Co{nid:Nat}{ds:List D}{ys:List AV}(h:UH nid (ds.map .d) ys):TL nid (.d (.agg ds)) (.agg ys):=fun β O w v hb hv=>by
 simp only[AV.ok,D.ok]at hv⊢;obtain⟨vs,h1,h2⟩:=hv;exact⟨vs,h1,Eo h2,h β O w _ hb (J_ h2)⟩
theorem iV.Uo{k:Nat}{x:AV}{s:iM}(nid t e:Nat)(y:AV)(hd:sat s nid=.dead)(hxy:TL nid x y):iV k x s y (sset (sset s nid (.tok t e 0)) nid (.lZ t e 0 [])):=fun C β w v hC hi hx=>by
 have hst:St C β [] s {tmps:=#[],defers:=[]} w:=⟨.nil,hi,rfl,fun i x hx=>by simp at hx⟩;obtain⟨h1,m⟩:=hst.CY (id:=nid) (t:=t) (e:=e) hd;obtain⟨h2,hf⟩:=h1.inv.O2 (id:=nid) (by rw[jA,ah rfl]);exact⟨_,h2,by rw[hf];exact hxy _ _ _ _ (by simp[iS]) (m.ok hx)⟩
def sq:Nat->List vJ->List jo
 |_,[]=>[]
 |n,x::xs=>⟨some n,x,none⟩::sq (n+1) xs
def sg(g:Nat)(b:Bool):Nat->List vJ->List jo
 |_,[]=>[]
 |n,x::xs=>⟨some n,x,some (some g,b)⟩::sg g b (n+1) xs
def s0(x:vJ):List jo:=[⟨none,x,none⟩]
def t0(n:Nat):Operand:=.tmp n
def i0(n:Int):Operand:=.const (.int .i64 n)
def tms:List Nat->List Operand
 |[]=>[]
 |n::ns=>.tmp n::tms ns
def mv(n:Nat):vJ:=.mv (.tmp n)
def mi(n:Int):vJ:=.mv (.const (.int .i64 n))
def mb(b:Bool):vJ:=.mv (.const (.bool b))
def ld(n:Nat):vJ:=.load 1 false (.tmp n)
def la(e n:Nat):vJ:=.load e true (.tmp n)
def fa(o n:Nat):vJ:=.Ve o (.tmp n)
def cf(f:Nat)(ns:List Nat):vJ:=.mB f (tms ns)
def pa(a b:Nat):vJ:=.pick (.tmp a) (.tmp b) (.const (.bool false))
def po(a b:Nat):vJ:=.pick (.tmp a) (.const (.bool true)) (.tmp b)
def bn(o:BinOp)(a b:Nat):vJ:=.bin o (.tmp a) (.tmp b)
def bi(o:BinOp)(a:Nat)(n:Int):vJ:=.bin o (.tmp a) (.const (.int .i64 n))
def nt(n:Nat):vJ:=.un .not (.tmp n)
def ln(n:Nat):vJ:=.len (.tmp n)
def ex(n i:Nat):vJ:=.ext (.tmp n) i
def ix(e a b:Nat):vJ:=.xR e (.tmp a) (.tmp b)
def bo(d t n:Nat):vJ:=.box d t (.tmp n)
def ap(d t e b x y:Nat):vJ:=.app d t e b (.tmp x) (.tmp y)
def sr(n a b:Nat):vJ:=.store n (.tmp a) (.tmp b)
theorem agY{n:Nat}:sq n []=[]:=(rfl)
theorem agX{n:Nat}{x:vJ}{xs:List vJ}:sq n (x::xs)=⟨some n,x,none⟩::sq (n+1) xs:=(rfl)
theorem agW{g:Nat}{b:Bool}{n:Nat}:sg g b n []=[]:=(rfl)
theorem agV{g:Nat}{b:Bool}{n:Nat}{x:vJ}{xs:List vJ}:sg g b n (x::xs)=⟨some n,x,some (some g,b)⟩::sg g b (n+1) xs:=(rfl)
theorem agU{x:vJ}:s0 x=[⟨none,x,none⟩]:=(rfl)
theorem ag1{n:Nat}:t0 n=.tmp n:=(rfl)
theorem agz{n:Int}:i0 n=.const (.int .i64 n):=(rfl)
theorem adA:tms []=[]:=(rfl)
theorem adz{n:Nat}{ns:List Nat}:tms (n::ns)=.tmp n::tms ns:=(rfl)
theorem agI{n:Nat}:mv n=.mv (.tmp n):=(rfl)
theorem agH{n:Int}:mi n=.mv (.const (.int .i64 n)):=(rfl)
theorem agG{b:Bool}:mb b=.mv (.const (.bool b)):=(rfl)
theorem agC{n:Nat}:ld n=.load 1 false (.tmp n):=(rfl)
theorem agB{e n:Nat}:la e n=.load e true (.tmp n):=(rfl)
theorem aff{o n:Nat}:fa o n=.Ve o (.tmp n):=(rfl)
theorem afd{f:Nat}{ns:List Nat}:cf f ns=.mB f (tms ns):=(rfl)
theorem agN{a b:Nat}:pa a b=.pick (.tmp a) (.tmp b) (.const (.bool false)):=(rfl)
theorem agO{a b:Nat}:po a b=.pick (.tmp a) (.const (.bool true)) (.tmp b):=(rfl)
theorem afb{o:BinOp}{a b:Nat}:bn o a b=.bin o (.tmp a) (.tmp b):=(rfl)
theorem afa{o:BinOp}{a:Nat}{n:Int}:bi o a n=.bin o (.tmp a) (.const (.int .i64 n)):=(rfl)
theorem agK{n:Nat}:nt n=.un .not (.tmp n):=(rfl)
theorem agE{n:Nat}:ln n=.len (.tmp n):=(rfl)
theorem afe{n i:Nat}:ex n i=.ext (.tmp n) i:=(rfl)
theorem agA{e a b:Nat}:ix e a b=.xR e (.tmp a) (.tmp b):=(rfl)
theorem afc{d t n:Nat}:bo d t n=.box d t (.tmp n):=(rfl)
theorem ae_{d t e b x y:Nat}:ap d t e b x y=.app d t e b (.tmp x) (.tmp y):=(rfl)
theorem agZ{n a b:Nat}:sr n a b=.store n (.tmp a) (.tmp b):=(rfl)
attribute [go_sem] agY agX agW agV agU ag1 agz adA adz agI agH agG agC agB aff afd agN agO afb afa agK agE afe agA afc ae_ agZ
class jf {α:Type} (x:Option α) (Q:outParam (α->Prop)):Prop where
 c:∀{r:α},x=some r->Q r
def Vh{α β:Type}(x:Option α)(K:α->Option β)(r:β):Prop:=x.bind K=some r
def Ite{α:Type}(c:Bool)(a b:Option α)(r:α):Prop:=(if c=true then a else b)=some r
def Nds{α:Type}(p:Prop)(a:Option α)(r:α):Prop:=p/\a=some r
theorem toB{α β:Type}{x:Option α}{K:α->Option β}{r:β}(h:x.bind K=some r):Vh x K r:=h
theorem toI{α:Type}{c:Bool}{a b:Option α}{r:α}(h:(if c=true then a else b)=some r):Ite c a b r:=h
theorem toN{α:Type}{p:Prop}[Decidable p]{a:Option α}{r:α}(h:(if p then a else none)=some r):Nds p a r:=sV h
theorem toE{α:Type}{x r:α}(h:some x=some r):x=r:=dG h
theorem toF{α:Type}{r:α}(h:none=some r):False:=by cases h
theorem it{α:Type}{c:Bool}{a b:Option α}{r:α}{p q1 q2:Prop}(h:Ite c a b r)(k1:c=true->a=some r->q1)(k2:c=false->b=some r->q2)
 (e1:c=true->p=q1:=by intro hc;(try simp only[ak,aN,bH,aJ,Nat.reduceAdd]at hc);first|((conv=>lhs;simp(maxSteps:=1000000) (disch:=omega)only[go_sem,mm,mg,nW,nU,bN,aT,aZ,Nat.reduceAdd,Nat.reduceSub,Nat.reduceLeDiff,Nat.reduceEqDiff,Nat.reduceLT,Int.reduceToNat,reduceIte,reduceCtorEq,hc])<;>rfl)|rfl)
 (e2:c=false->p=q2:=by intro hc;(try simp only[ak,aN,bH,aJ,Nat.reduceAdd]at hc);first|((conv=>lhs;simp(maxSteps:=1000000) (disch:=omega)only[go_sem,mm,mg,nW,nU,bN,aT,aZ,Nat.reduceAdd,Nat.reduceSub,Nat.reduceLeDiff,Nat.reduceEqDiff,Nat.reduceLT,Int.reduceToNat,reduceIte,reduceCtorEq,hc])<;>rfl)|rfl):p:=
 (GK h).elim (fun h=>(e1 h.1).symm▸k1 h.1 h.2) fun h=>(e2 h.1).symm▸k2 h.1 h.2
theorem KZ{ρ:Nat->Option Nat}{id e n:Nat}{ds:List D}:AV.jY ρ (AV.pX id ds (.kU e id n))=AV.pX id ds (.kU e id n):=by
 simp only[AV.pX,aA];split<;>rfl
attribute [go_sem] KZ
def Rt(p:Prop):Prop:=p
theorem rtA{c x:Prop}(h:c):Rt (c/\x)=Rt x:=propext ⟨fun k=>k.2,fun k=>⟨h,k⟩⟩
theorem oS{p q:Prop}(hq:q)(e:p=q:=by first|((conv=>lhs;change Rt _;simp(maxSteps:=1000000) (disch:=omega)only[rtA,go_sem,mm,mg,nW,nU,bN,aT,aZ,Nat.reduceAdd,Nat.reduceSub,Nat.reduceLeDiff,Nat.reduceEqDiff,Nat.reduceLT,Int.reduceToNat,reduceIte,reduceCtorEq];delta Rt)<;>rfl)|rfl):p:=e▸hq
theorem ndN{α:Type}{c p q:Prop}{a:Option α}{r:α}(h:Nds c a r)(k:c->a=some r->q)
 (e:c->p=q:=by intro hp;(try(have hq':=hp;simp only[ak,aN,bH,aJ,Nat.reduceAdd]at hq'));first|((conv=>lhs;change Rt _;simp(maxSteps:=1000000) (disch:=omega)only[rtA,go_sem,mm,mg,nW,nU,bN,aT,aZ,Nat.reduceAdd,Nat.reduceSub,Nat.reduceLeDiff,Nat.reduceEqDiff,Nat.reduceLT,Int.reduceToNat,reduceIte,reduceCtorEq];delta Rt)<;>rfl)|rfl):p:=(e h.1).symm▸(k h.1 h.2)
theorem jZ{α:Type}{c p q:Prop}{_:Decidable c}{a:Option α}{r:α}(h:(if c then a else none)=some r)(k:c->a=some r->q)
 (e:c->p=q:=by intro hp;(try(have hq':=hp;simp only[ak,aN,bH,aJ,Nat.reduceAdd]at hq'));first|((conv=>lhs;change Rt _;simp(maxSteps:=1000000) (disch:=omega)only[rtA,go_sem,mm,mg,nW,nU,bN,aT,aZ,Nat.reduceAdd,Nat.reduceSub,Nat.reduceLeDiff,Nat.reduceEqDiff,Nat.reduceLT,Int.reduceToNat,reduceIte,reduceCtorEq];delta Rt)<;>rfl)|rfl):p:=(e (sV h).1).symm▸(k (sV h).1 (sV h).2)
section
variable{α β:Type}{P:Program}{k0 f:Nat}{args env:List AV}{s:iM}{d:Option Nat}{R:List AV->iM->Prop}{F:List (List Nat×List Nat)->List AV->iM->Prop}{ms:List jo}{acc:List (List Nat×List Nat)}{foot:List Nat}
 {x:Option α} {K:α->Option β} {r:β} {q:α->Prop}
theorem rC{dz:List D}{y:α->D}[i:jf x fun a=>jK P f dz (y a)](h:Vh x K r)(hk:∀a,x=some a->K a=some r->q a)
 (e:∀a,R (jB d env (.d (y a))) s=q a:=by intro a;first|((conv=>lhs;simp(maxSteps:=1000000) (disch:=omega)only[go_sem,mm,mg,nW,nU,bN,aT,aZ,Nat.reduceAdd,Nat.reduceSub,Nat.reduceLeDiff,Nat.reduceEqDiff,Nat.reduceLT,Int.reduceToNat,reduceIte,reduceCtorEq])<;>rfl)|rfl) (ha:ju (args.map fun x=>x.jY (qu [])) (dz.map .d):=by exact nh):mA P k0 f args env s d R:=
 let⟨a,h1,h2⟩:=bind_some h;SD (i.c h1) ha ((e a).symm▸hk a h1 h2)
theorem TP{dz:List D}{y:α->List D}[i:jf x fun a=>mO P f dz (y a)](h:Vh x K r)(hk:∀a,x=some a->K a=some r->q a)
 (e:∀a,R (jB d env (.kZ ((y a).map .d))) s=q a:=by intro a;first|((conv=>lhs;simp(maxSteps:=1000000) (disch:=omega)only[go_sem,mm,mg,nW,nU,bN,aT,aZ,Nat.reduceAdd,Nat.reduceSub,Nat.reduceLeDiff,Nat.reduceEqDiff,Nat.reduceLT,Int.reduceToNat,reduceIte,reduceCtorEq])<;>rfl)|rfl) (ha:ju (args.map fun x=>x.jY (qu [])) (dz.map .d):=by exact nh):mA P k0 f args env s d R:=
 let⟨a,h1,h2⟩:=bind_some h;PA (i.c h1) ha ((e a).symm▸hk a h1 h2)
theorem dC{dz:List D}{y:α->D}[i:jf x fun a=>jK P f dz (y a)](h:Vh x K r)(hk:∀a,x=some a->K a=some r->q a)
 (e:∀a,yt P k0 F ms ((foot,[])::acc) (jB d env (.d (y a))) s=q a:=by intro a;first|((conv=>lhs;simp(maxSteps:=1000000) (disch:=omega)only[go_sem,mm,mg,nW,nU,bN,aT,aZ,Nat.reduceAdd,Nat.reduceSub,Nat.reduceLeDiff,Nat.reduceEqDiff,Nat.reduceLT,Int.reduceToNat,reduceIte,reduceCtorEq])<;>rfl)|rfl) (ha:ju (args.map fun x=>x.jY (qu [])) (dz.map .d):=by exact nh):oG P k0 F ms acc foot d env s f args:=
 let⟨a,h1,h2⟩:=bind_some h;SB (i.c h1) ha ((e a).symm▸hk a h1 h2)
theorem dCN{dz:List D}{y:α->List D}[i:jf x fun a=>mO P f dz (y a)](h:Vh x K r)(hk:∀a,x=some a->K a=some r->q a)
 (e:∀a,yt P k0 F ms ((foot,[])::acc) (jB d env (.kZ ((y a).map .d))) s=q a:=by intro a;first|((conv=>lhs;simp(maxSteps:=1000000) (disch:=omega)only[go_sem,mm,mg,nW,nU,bN,aT,aZ,Nat.reduceAdd,Nat.reduceSub,Nat.reduceLeDiff,Nat.reduceEqDiff,Nat.reduceLT,Int.reduceToNat,reduceIte,reduceCtorEq])<;>rfl)|rfl) (ha:ju (args.map fun x=>x.jY (qu [])) (dz.map .d):=by exact nh):oG P k0 F ms acc foot d env s f args:=
 let⟨a,h1,h2⟩:=bind_some h;Pz (i.c h1) ha ((e a).symm▸hk a h1 h2)
theorem tg(pr nw:List gU){dz:List AV}{s1:iM}{t:α->iM}{y:α->AV}[i:jf x fun a=>iR P f dz s1 pr.length fun x s'=>x=y a/\s'=t a](h:Vh x K r)(hk:∀a,x=some a->K a=some r->q a)
 (e:∀a,R (jB d env ((y a).jY (nF (pr++nw)))) (tj s (t a) (pr++nw) (pr++nw))=q a:=by intro a;first|((conv=>lhs;simp(maxSteps:=1000000) (disch:=omega)only[go_sem,mm,mg,nW,nU,bN,aT,aZ,Nat.reduceAdd,Nat.reduceSub,Nat.reduceLeDiff,Nat.reduceEqDiff,Nat.reduceLT,Int.reduceToNat,reduceIte,reduceCtorEq])<;>rfl)|rfl)
 (h1:pr.map (·.1)=List.range pr.length:=by rfl) (h2:((pr++nw).map (·.1)).Nodup:=by decide) (h3:((pr++nw).map (·.2)).Nodup:=by decide)
 (h4:∀p∈nw,sat s p.2=.dead/\k0<=p.2:=by simp[sat]) (ha:ju (args.map fun x=>x.jY (qu pr)) dz:=by exact nh) (hs:lM (nM s pr pr) s1:=by exact nh):mA P k0 f args env s d R:=
 let⟨a,g1,g2⟩:=bind_some h;IV pr nw (i.c g1) h1 h2 h3 h4 ha hs ((e a).symm▸hk a g1 g2)
theorem JH(pr nw:List gU){dz:List AV}{s1:iM}{t:α->iM}{y:α->AV}[i:jf x fun a=>iR P f dz s1 pr.length fun x s'=>x=y a/\s'=t a](h:Vh x K r)(hk:∀a,x=some a->K a=some r->q a)
 (e:∀a,yt P k0 F ms (((pr++nw).map (·.2)++foot,(KS (t a) (pr++nw) (pr++nw)).map (·.1))::acc) (jB d env ((y a).jY (nF (pr++nw)))) (tq s (KS (t a) (pr++nw) (pr++nw)))=q a:=by intro a;first|((conv=>lhs;simp(maxSteps:=1000000) (disch:=omega)only[go_sem,mm,mg,nW,nU,bN,aT,aZ,Nat.reduceAdd,Nat.reduceSub,Nat.reduceLeDiff,Nat.reduceEqDiff,Nat.reduceLT,Int.reduceToNat,reduceIte,reduceCtorEq])<;>rfl)|rfl)
 (h1:pr.map (·.1)=List.range pr.length:=by rfl) (h2:((pr++nw).map (·.1)).Nodup:=by decide) (h3:((pr++nw).map (·.2)).Nodup:=by decide)
 (h4:∀p∈nw,sat s p.2=.dead/\k0<=p.2:=by simp[sat]) (ha:ju (args.map fun x=>x.jY (qu pr)) dz:=by exact nh) (hs:lM (nM s pr pr) s1:=by exact nh):oG P k0 F ms acc foot d env s f args:=
 let⟨a,g1,g2⟩:=bind_some h;VY pr nw (i.c g1) h1 h2 h3 h4 ha hs ((e a).symm▸hk a g1 g2)
end
theorem lW{p:Prop}(h:p:=by repeat' first
 |refine jM (by kernel_rfl) (jd ?_)
 |refine CQ iA (oS ?_)
 |(with_reducible replace h:=toE h);subst h;first|(refine⟨_,rfl,iW.leS ?_ ?_⟩<;>(first|(simp only[go_sem,iH,aQ,bO,bR,aF,Nat.reduceAdd,Nat.reduceSub,Nat.reduceLeDiff,Nat.reduceEqDiff,Nat.reduceLT,reduceIte,reduceCtorEq];done)|((try simp only[go_sem,iH,aQ,bO,bR,aF,Nat.reduceAdd,Nat.reduceSub,Nat.reduceLeDiff,Nat.reduceEqDiff,Nat.reduceLT,reduceIte,reduceCtorEq];repeat' (first|exact AV.le_refl _|refine And.intro ?_ ?_|refine AV.BE ?_|refine AV.zC ?_|refine AV.CP ?_|refine AV.AP (DL.agg ?_)|exact enN|exact D1|refine enC ?_ ?_|refine xy ?_ ?_|exact dsN|refine dsC ?_ ?_|exact vn (AV.AP DL.nil) _|exact D.le_refl _|exact AK|exact vm|refine AJ ?_|(simp only[go_sem,iH,aQ,bO,bR,aF,Nat.reduceAdd,Nat.reduceSub,Nat.reduceLeDiff,Nat.reduceEqDiff,Nat.reduceLT,reduceIte,reduceCtorEq];done)|refine tr.append (tr.refl _) ?_|refine AV.xm ?_|refine AV.GO ?_|omega));done)))|(first|(simp only[go_sem,iH,aQ,bO,bR,aF,Nat.reduceAdd,Nat.reduceSub,Nat.reduceLeDiff,Nat.reduceEqDiff,Nat.reduceLT,reduceIte,reduceCtorEq];done)|((try simp only[go_sem,iH,aQ,bO,bR,aF,Nat.reduceAdd,Nat.reduceSub,Nat.reduceLeDiff,Nat.reduceEqDiff,Nat.reduceLT,reduceIte,reduceCtorEq];repeat' (first|exact AV.le_refl _|refine And.intro ?_ ?_|refine AV.BE ?_|refine AV.zC ?_|refine AV.CP ?_|refine AV.AP (DL.agg ?_)|exact enN|exact D1|refine enC ?_ ?_|refine xy ?_ ?_|exact dsN|refine dsC ?_ ?_|exact vn (AV.AP DL.nil) _|exact D.le_refl _|exact AK|exact vm|refine AJ ?_|(simp only[go_sem,iH,aQ,bO,bR,aF,Nat.reduceAdd,Nat.reduceSub,Nat.reduceLeDiff,Nat.reduceEqDiff,Nat.reduceLT,reduceIte,reduceCtorEq];done)|refine tr.append (tr.refl _) ?_|refine AV.xm ?_|refine AV.GO ?_|omega));done))|(refine⟨[],by simp,?_,?_⟩<;>(first|(simp only[go_sem,iH,aQ,bO,bR,aF,Nat.reduceAdd,Nat.reduceSub,Nat.reduceLeDiff,Nat.reduceEqDiff,Nat.reduceLT,reduceIte,reduceCtorEq];done)|((try simp only[go_sem,iH,aQ,bO,bR,aF,Nat.reduceAdd,Nat.reduceSub,Nat.reduceLeDiff,Nat.reduceEqDiff,Nat.reduceLT,reduceIte,reduceCtorEq];repeat' (first|exact AV.le_refl _|refine And.intro ?_ ?_|refine AV.BE ?_|refine AV.zC ?_|refine AV.CP ?_|refine AV.AP (DL.agg ?_)|exact enN|exact D1|refine enC ?_ ?_|refine xy ?_ ?_|exact dsN|refine dsC ?_ ?_|exact vn (AV.AP DL.nil) _|exact D.le_refl _|exact AK|exact vm|refine AJ ?_|(simp only[go_sem,iH,aQ,bO,bR,aF,Nat.reduceAdd,Nat.reduceSub,Nat.reduceLeDiff,Nat.reduceEqDiff,Nat.reduceLT,reduceIte,reduceCtorEq];done)|refine tr.append (tr.refl _) ?_|refine AV.xm ?_|refine AV.GO ?_|omega));done)))
 |(with_reducible exact(toF h).elim)
 |(with_reducible replace h:=toI h);refine it h (fun hc h=>?_) (fun hc h=>?_)
 |(with_reducible replace h:=toN h);refine ndN h (fun hp h=>?_)
 |(with_reducible replace h:=toB h);first|refine rC h (fun r hr h=>?_)|refine TP h (fun r hr h=>?_)|refine dC h (fun r hr h=>?_)|refine dCN h (fun r hr h=>?_)
 |(with_reducible replace h:=jD h hb3)
 |(with_reducible replace h:=jD h hb2)
 |(with_reducible replace h:=jD h hb1)
 |(exfalso;simp only[au,cm]at *;omega)):p:=h
theorem iT{α:Type}{c:Bool}{a b:Option α}{r:α}{p q1:Prop}(h:(if c=true then a else b)=some r)(k1:c=true->a=some r->q1)
 (e1:c=true->p=q1:=by intro hc;(try simp only[ak,aN,bH,aJ,Nat.reduceAdd]at hc);first|((conv=>lhs;simp(maxSteps:=1000000) (disch:=omega)only[go_sem,mm,mg,nW,nU,bN,aT,aZ,Nat.reduceAdd,Nat.reduceSub,Nat.reduceLeDiff,Nat.reduceEqDiff,Nat.reduceLT,Int.reduceToNat,reduceIte,reduceCtorEq,hc])<;>rfl)|rfl)
 (k2:c=false->b=some r->p:=by intro hc h;(try simp only[ak,aN,bH,aJ,Nat.reduceAdd]at hc);refine uE hc ?_;exact lW):p:=
 (GK h).elim (fun h=>(e1 h.1).symm▸k1 h.1 h.2) fun h=>k2 h.1 h.2
theorem iF{α:Type}{c:Bool}{a b:Option α}{r:α}{p q2:Prop}(h:(if c=true then a else b)=some r)(k2:c=false->b=some r->q2)
 (e2:c=false->p=q2:=by intro hc;(try simp only[ak,aN,bH,aJ,Nat.reduceAdd]at hc);first|((conv=>lhs;simp(maxSteps:=1000000) (disch:=omega)only[go_sem,mm,mg,nW,nU,bN,aT,aZ,Nat.reduceAdd,Nat.reduceSub,Nat.reduceLeDiff,Nat.reduceEqDiff,Nat.reduceLT,Int.reduceToNat,reduceIte,reduceCtorEq,hc])<;>rfl)|rfl)
 (k1:c=true->a=some r->p:=by intro hc h;(try simp only[ak,aN,bH,aJ,Nat.reduceAdd]at hc);refine uE hc ?_;exact lW):p:=
 (GK h).elim (fun h=>k1 h.1 h.2) fun h=>(e2 h.1).symm▸k2 h.1 h.2
theorem kH{P:Program}{k:Nat}{Q:Post}{env:List AV}{s:iM}{x:iJ}{σ β:Type}{f:σ->Option (σ⊕β)}{s0:σ}{b:β}(hb:iL f s0=some b)
 (ws:List Nat) (vs:σ->List (Nat×AV)) (S:σ->iM)
 (round:∀p t,f p=some t->(∀b',t=.inr b'->b'=b)->oR P k x (AB (fun env' s'=>∃p',t=.inl p'/\iW k env' s' (qG (tf env ws) (vs p')) (S p')) Q)
  (qG (tf env ws) (vs p)) (S p)) (hw:iW k env s (qG (tf env ws) (vs s0)) (S s0):=by(try dsimp only);exact wk):oR P k (.loop x) Q env s:=nL hb ws vs S hw round
theorem xu{s:iM}{id id' i:Nat}{ob:Ob}:sat (sset (jz id' s) id ob) i=if i=id then ob else if i=id' then .dead else(sat s i).kill id':=by rw[jA,qc]
theorem St.LF{C:Ctx}{β:i_}{env:List AV}{s:iM}{a:Act}{w:World}(h:St C β env s a w){id id':Nat}(hne:id≠id')(hk:C.k<=id'){t e n e':Nat}{xs':List D}{pre post:List AV}
 (hs:sat s id=.lI t e n (pre++ .own e' id' xs'::post))
 (hnv:∀v,AV.ok β (C.iN β s) w (.own e' id' xs') v->∃B:List Nat,B.Nodup/\(∀b∈B,iG β s id' b/\∃vs t',w.heap[b]?=some (.cells vs t' (0,0)))/\NV w (.sl e' none xs') v B):
 ∃β',St C β' (AV.ji (iQ id') env) (sset (jz id' s) id (.lI t e n (AV.ji (iQ id') pre++ .dp (.sl e' none xs')::AV.ji (iQ id') post))) a w:=by
 have ho:=h.inv.obs id;rw[hs]at ho;obtain⟨u,bs,hb,h0,hl,htok⟩:=ho;rcases htok with⟨_,h1,_⟩|⟨b,cap,vs,rfl,k5,k6,k7,k8,k9,k10,k11⟩
 ·rw[h1]at hl;simp at hl
 obtain⟨hpl,b1,b2,hbs,hn1,hn2⟩:=xk k11;simp only[rQ]at hn2;obtain⟨v,r,c1,c2,hvr,hb2,hx,hn3⟩:=hn2;obtain⟨hxo,hc1⟩:AV.ok β (C.iN β s) w (.own e' id' xs') v/\c1=[]:=hx;subst hc1;rw[aZ]at hb2;subst hb2;subst hbs;obtain⟨B,hB1,hB2,hB3⟩:=hnv v hxo;have hm:iG β s id b:=by unfold iG;rw[hs];exact⟨_,_,hb,.inl ⟨cap,rfl⟩⟩
 have hmb:∀q∈b1++b2,iG β s id q:=fun q hq=>by unfold iG;rw[hs];exact⟨_,_,hb,.inr hq⟩
 have hdis:∀q∈B,¬iG β s id q:=fun q hq h2=>hne (h.inv.inj id id' q h2 (hB2 q hq).1)
 let β':i_:=iS (iS β id' .no) id (.lI (.slice (some ⟨b,0,none⟩) n cap) n (b1++(B++b2)));let s':iM:=sset (jz id' s) id (.lI t e n (AV.ji (iQ id') pre++ .dp (.sl e' none xs')::AV.ji (iQ id') post));have hβid:β' id=.lI (.slice (some ⟨b,0,none⟩) n cap) n (b1++(B++b2)):=by simp[β',iS]
 have hβo:∀i,i≠id->i≠id'->β' i=β i:=fun i h1 h2=>by simp[β',iS,h1,h2]
 have hblk:∀i q,iG β' s' i q->iG β s i q\/i=id/\q∈B:=by
  intro i q hq;unfold iG at hq;rw[xu]at hq;by_cases hi:i=id
  ·subst hi;rw[ah rfl]at hq;simp only at hq;obtain⟨v',q',h1,h2⟩:=hq;rw[hβid]at h1;cases h1;rcases h2 with⟨cap',h2⟩|h2
   ·simp at h2;rw[<-h2.1];exact .inl hm
   ·rcases aG.1 h2 with h2|h2
    ·exact .inl (hmb q (by simp[h2]))
    ·rcases aG.1 h2 with h2|h2
     ·exact .inr ⟨rfl,h2⟩
     ·exact .inl (hmb q (by simp[h2]))
  ·rw[aj hi]at hq;by_cases hi':i=id'
   ·rw[ah hi']at hq;exact hq.elim
   ·rw[aj hi']at hq;refine .inl ?_;unfold iG;cases hsi:sat s i<;>rw[hsi]at hq<;>simpa[Ob.kill,hβo i hi hi']using hq
 have hown:∀q o,own β' s' q o->own (iS β id' .no) (jz id' s) q o:=by
  rintro q o ⟨i,ho⟩;refine⟨i,?_⟩;rw[xu]at ho;rw[qc];by_cases hi:i=id
  ·subst hi;rw[ah rfl]at ho;simp only at ho;obtain⟨cap',q',h1,h2⟩:=ho;rw[hβid]at h1;rw[aj hne,hs];simp only[Ob.kill];simp only[Place.lI.injEq,ck,eB,aP,fB,fZ]at h1;obtain⟨⟨rfl,rfl⟩,_⟩:=h1;exact⟨cap,b1++b2,by simpa[iS,hne]using hb,h2⟩
  ·rw[aj hi]at ho;by_cases hi':i=id'
   ·rw[ah hi']at ho;exact ho.elim
   ·rw[aj hi']at ho⊢;cases hsi:sat s i<;>rw[hsi]at ho<;>simpa[Ob.kill,iS,hβo i hi hi',hi']using ho
 have hval:∀x v,AV.ok β (C.iN β s) w x v->AV.ok β' (C.iN β' s') w (x.jY (iQ id')) v:=fun x v hx=>
  AV.kA (fun q o v hc hn=>⟨hc,fun hf=>hn (hf.imp (fun x=>x) (hown q o))⟩) (fun i=>by
   by_cases hi:i=id
   ·subst hi;rw[hβid];simp only[iS,aj hne];rw[hb];exact⟨_,_,_,rfl,aC _,fun _=>rfl⟩
   ·simp only[β'];simp only[iS,aj hi];exact .refl _) _ _ (xH (id:=id') hx)
 have hnone:β' id'=.no:=by simp[β',iS];exact fun h=>hne h.symm
 refine⟨β',h.defers,⟨h.inv.size,h.inv.io,h.inv.keep,h.inv.pU,fun q o ho=>h.inv.qz q o (wM (hown q o ho)),fun i q hq=>?_,fun i hi=>?_,h.inv.low,fun i=>?_,fun i j q hi hj=>?_⟩,by rw[lN];exact h.len,fun i x hx=>?_⟩
 ·rcases hblk i q hq with h1|⟨_,h1⟩
  ·exact h.inv.sM i q h1
  ·exact h.inv.sM id' q (hB2 q h1).1
 ·have h1:=h.inv.pl i hi;by_cases hii:i=id
  ·subst hii;rw[hβid];rw[hb]at h1;exact h1.trans ⟨_,_,_,rfl,aC _,fun _=>rfl⟩
  ·rw[hβo i hii iA];exact h1
 ·show yb β' (C.iN β' s') w i (sat s' i);rw[xu];by_cases hi:i=id
  ·subst hi;rw[ah rfl];refine⟨_,_,hβid,fun q hq=>?_,?_,.inr ⟨b,cap,vs,rfl,k5,k6,k7,k8,k9,?_,?_⟩⟩
   ·rcases aG.1 hq with hq|hq
    ·exact h0 q (by simp[hq])
    ·rcases aG.1 hq with hq|hq
     ·exact(hB2 q hq).2
     ·exact h0 q (by simp[hq])
   ·rw[<-hl];simp[lN]
   ·have k10':=k10;rw[bX,cc]at k10';obtain⟨p1,p2,p3,p4⟩:=k10';rw[bX,cc,cc];refine⟨fun hq=>?_,p2,⟨hB1,p3,fun x hx y hy he=>hdis x hx (he▸hmb y (by simp[hy]))⟩,fun x hx y hy he=>?_⟩
    ·rcases aG.1 hq with hq|hq
     ·exact p1 (by simp[hq])
     ·rcases aG.1 hq with hq|hq
      ·exact hdis b hq hm
      ·exact p1 (by simp[hq])
    ·rcases aG.1 hy with hy|hy
     ·exact hdis y hy (he▸hmb x (by simp[hx]))
     ·exact p4 x hx y hy he
   ·have e1:=rQ.imp (f:=AV.jY (iQ id')) (β':=β') (O':=C.iN β' s') (w':=w) (fun x v=>ni (hval x v)) (fun _ _=>rfl) hn1;have e2:=rQ.imp (f:=AV.jY (iQ id')) (β':=β') (O':=C.iN β' s') (w':=w) (fun x v=>ni (hval x v)) (fun _ _=>rfl) hn3;rw[<-kB]at e1 e2;have e3:rQ β' (C.iN β' s') w (.dp (.sl e' none xs')::AV.ji (iQ id') post) (vs.toList.drop pre.length) (B++b2):=by
     rw[hvr];simp only[rQ];exact⟨v,r,B,b2,rfl,rfl,hB3,e2⟩
    have e4:=sj (us:=vs.toList.take pre.length) (by rw[bF,lN];omega) (Ab (vs:=vs.toList.take pre.length) e1 (by rw[lN,fJ,gh])) e3;rwa [bL]at e4
  ·rw[aj hi];by_cases hi':i=id'
   ·rw[ah hi',hi'];exact hnone
   ·rw[aj hi'];have ho:=h.inv.obs i;cases hsi:sat s i with
    |dead=>rw[hsi]at ho;exact(hβo i hi hi').trans ho
    |obj t' cs=>
     rw[hsi]at ho;obtain⟨q,us,h1,h2,h3,h4⟩:=ho;refine⟨q,us,(hβo i hi hi').trans h1,h2,h3,h4.imp fun us' hu=>?_⟩;rw[kB];exact DK hval hu
    |tok t' e2 n'=>rw[hsi]at ho;obtain⟨u',h1,h2⟩:=ho;exact⟨u',(hβo i hi hi').trans h1,h2⟩
    |lZ t' e2 n' cs=>
     rw[hsi]at ho;obtain⟨u',h1,h3,h2⟩:=ho;refine⟨u',(hβo i hi hi').trans h1,h3,?_⟩;rcases h2 with h2|⟨q,cap',us,g2,g3,g4,g5,g6,g7,pre',rest,g8,g9⟩
     ·exact .inl h2
     ·exact .inr ⟨q,cap',us,g2,g3,g4,g5,g6,g7,pre',rest,g8,D.jU (fun q o v hc hn=>⟨hc,fun hf=>hn (hf.imp (fun x=>x) fun ho=>wM (hown q o ho))⟩) _ _ g9⟩
    |lI t' e2 n' cs=>
     rw[hsi]at ho;obtain⟨u',bs',h1,h3,h2⟩:=ho;refine⟨u',bs',(hβo i hi hi').trans h1,h3,?_⟩;rw[kB];exact h2.imp (fun x v=>ni (hval x v)) (fun _ _=>rfl) (fun _ _ _=>rfl)
    |kT e2 n' cs=>
     rw[hsi]at ho;obtain⟨u',bs',h1,h3,h2⟩:=ho;refine⟨u',bs',(hβo i hi hi').trans h1,h3,?_⟩;rw[kB];exact h2.imp (fun x v=>ni (hval x v)) (fun _ _=>rfl) (fun _ _ _ _=>rfl)
 ·rcases hblk i q hi with h1|⟨h1,h1'⟩<;>rcases hblk j q hj with h2|⟨h2,h2'⟩
  ·exact h.inv.inj i j q h1 h2
  ·subst h2;have:=h.inv.inj i id' q h1 (hB2 q h2').1;subst this;unfold iG at hi;rw[xu,aj (fun h=>hne h.symm),ah rfl]at hi;exact hi.elim
  ·subst h1;have:=h.inv.inj j id' q h2 (hB2 q h1').1;subst this;unfold iG at hj;rw[xu,aj (fun h=>hne h.symm),ah rfl]at hj;exact hj.elim
  ·rw[h1,h2]
 ·rw[qH]at hx;cases hy:env[i]? with
  |none=>rw[hy]at hx;cases hx
  |some y=>rw[hy]at hx;cases hx;exact hval _ _ (h.env i y hy)
def ME:D->Bool
 |.lit _=>true
 |_=>false
def vz:D->Bool
 |.lit _=>true
 |.sl _ _ _=>true
 |_=>false
def xg:D->AV
 |.sl e nl xs=>.dp (.sl e nl xs)
 |x=>.d x
theorem Lz{β:i_}{O:Own}{w:World}{x:D}{v:Value}{bs:List Nat}(hx:vz x=true)(h:NX β O w (xg x) v bs):NV w x v bs:=by
 cases x with
 |any=>cases hx
 |agg cs=>cases hx
 |lit u=>
  obtain⟨h1,h2⟩:=h;have h1:D.ok O w (.lit u) v:=by
   have h1:AV.ok β O w (.d (.lit u)) v:=h1;simpa only[AV.ok]using h1
  have h1:v=u/\one u=true:=by simpa only[D.ok]using h1
  exact⟨h1.1,h1.2,h2⟩
 |sl e nl xs=>exact h
theorem F3{β:i_}{O:Own}{w:World}:∀{cs:List D}{vs r:List Value}{bs:List Nat},(∀x∈cs,vz x=true)->vs.length=cs.length->rQ β O w (cs.map xg) (vs++r) bs->NC w cs vs bs
 |[],vs,r,bs,_,hl,h=>by
  simp only[cJ,rQ]at h;simp only[NC];exact⟨bQ.1 hl,h⟩
 |c::cs,[],r,bs,_,hl,_=>by simp at hl
 |c::cs,u::us,r,bs,hc,hl,h=>by
  simp only[aK,bz,rQ]at h;obtain⟨v,q,b1,b2,h1,rfl,h3,h4⟩:=h;cases h1;simp only[NC];exact⟨u,us,b1,b2,rfl,rfl,Lz (hc c (by simp)) h3,F3 (fun x hx=>hc x (by simp[hx])) (by simpa using hl) h4⟩
theorem CI{β:i_}{O:Own}{w:World}{e:Nat}:∀{xs:List D}{vs:List Value}{bs:List Nat},(∀x∈xs,(iI x).length=e)->(∀x∈xs,∀c∈iI x,vz c=true)->
 rQ β O w ((xs.flatMap iI).map xg) vs bs->NR w e xs vs bs
 |[],vs,bs,_,_,h=>by simpa[rQ,NR]using h
 |x::xs,vs,bs,he,hc,h=>by
  rw[cQ,aQ]at h;obtain⟨h1,b1,b2,rfl,h2,h3⟩:=xk h;rw[aJ]at h1 h3;have hlen:=he x (by simp);have hsp:vs=vs.take e++vs.drop e:=(bL e vs).symm;have hle:e<=vs.length:=by omega
  have ih:=CI (xs:=xs) (fun y hy=>he y (by simp[hy])) (fun y hy=>hc y (by simp[hy])) h3;rw[hlen]at ih;have hnc:NC w (iI x) (vs.take e) b1:=F3 (r:=vs.drop e) (hc x (by simp)) (by rw[bF,hlen];omega) (by rw[bL];exact h2);cases x with
  |agg cs=>
   simp only[NR];exact⟨vs.take e,vs.drop e,b1,b2,hsp,by rw[bF];omega,rfl,hnc,ih⟩
  |any=>exact absurd (hc .any (by simp) .any (by simp[iI])) (by simp[vz])
  |lit u=>
   simp only[iI,aN,bH]at hlen;subst hlen;simp only[iI,NC]at hnc;obtain⟨v,r,c1,c2,g1,rfl,g3,g4,rfl⟩:=hnc;simp only[NR];exact⟨v,vs.drop 1,c1,b2,by
    conv=>lhs;rw[hsp]
    rw[g1,g4];rfl,by trivial,by simp,g3,ih⟩
  |sl e' nl ys=>
   simp only[iI,aN,bH]at hlen;subst hlen;simp only[iI,NC]at hnc;obtain⟨v,r,c1,c2,g1,rfl,g3,g4,rfl⟩:=hnc;simp only[NR];exact⟨v,vs.drop 1,c1,b2,by
    conv=>lhs;rw[hsp]
    rw[g1,g4];rfl,by trivial,by simp,g3,ih⟩
theorem WS{C:Ctx}{β:i_}{s:iM}{w:World}(h:Inv C β s w){id' t e:Nat}{xs:List D}(hs:sat s id'=.lI t e xs.length ((xs.flatMap iI).map xg))
 (he:∀x∈xs,(iI x).length=e) (hc:∀x∈xs,∀c∈iI x,vz c=true) (v:Value) (hv:AV.ok β (C.iN β s) w (.own e id' xs) v):
 ∃B:List Nat,B.Nodup/\(∀b∈B,iG β s id' b/\∃vs t',w.heap[b]?=some (.cells vs t' (0,0)))/\NV w (.sl e none xs) v B:=by
 have ho:=h.obs id';rw[hs]at ho;obtain⟨u,bs,hb,h0,hl,htok⟩:=ho;simp only[AV.ok,D.ok]at hv;obtain⟨⟨a,cap,hva,hcap,hnl,_⟩,p,q,h1,_,h3⟩:=hv;rw[hb]at h1;obtain⟨rfl,rfl⟩:=h1;have hvu:v=u:=h3 rfl;subst hvu;rcases htok with⟨rfl,k2,rfl⟩|⟨b,cap',vs,rfl,k5,k6,k7,k8,k9,k10,k11⟩
 ·have hx:xs=[]:=bQ.1 k2;subst hx;refine⟨[],by simp,by simp,?_⟩;simp only[NV];exact⟨none,0,rfl,⟨aC _,iA⟩,trivial,.inl (by simp)⟩
 ·refine⟨b::bs,k10,fun q hq=>?_,?_⟩
  ·rcases bA.1 hq with rfl|hq
   ·exact⟨by unfold iG;rw[hs];exact⟨_,bs,hb,.inl ⟨cap',rfl⟩⟩,vs,t,k5⟩
   ·exact⟨by unfold iG;rw[hs];exact⟨_,bs,hb,.inr hq⟩,h0 q hq⟩
  ·simp only[NV];exact⟨_,cap',rfl,⟨k7,k8⟩,trivial,.inr ⟨b,vs,t,bs,rfl,rfl,k5,k6,k9,CI he hc k11⟩⟩
theorem K5{O:Own}{w:World}{b:Nat}{vs:Array Value}{t:Nat}(hh:w.heap[b]?=some (.cells vs t (0,0))):∀{xs:List D}{o:Nat},(∀x∈xs,ME x=true)->D.row O w b o 1 xs->NR w 1 xs (vs.toList.drop o) []
 |[],_,_,_=>by simp[NR]
 |x::xs,o,hl,h=>by
  cases x with
  |lit u=>
   simp only[D.row]at h;obtain⟨⟨v,_,h1,h2⟩,h3⟩:=h;simp only[D.ok]at h2;obtain⟨rfl,hone⟩:=h2;have h4:=(h1 0 v rfl).1;simp only[World.cell?,hh,cA,aq,aE,dh]at h4;have hlt:o<vs.toList.length:=by simpa using(aW.1 h4).1
   simp only[NR];refine⟨v,vs.toList.drop (o+1),[],[],?_,by trivial,rfl,?_,K5 hh (fun y hy=>hl y (by simp[hy])) h3⟩
   ·rw[ay hlt];congr 1;have:=(aW.1 h4).2;simpa using this
   ·simp only[NV];exact⟨by trivial,hone,by trivial⟩
  |any=>exact absurd (hl .any (by simp)) (by simp[ME])
  |agg cs=>exact absurd (hl (.agg cs) (by simp)) (by simp[ME])
  |sl e nl ys=>exact absurd (hl (.sl e nl ys) (by simp)) (by simp[ME])
theorem WT{C:Ctx}{β:i_}{s:iM}{w:World}(h:Inv C β s w){id' t:Nat}{xs:List D}(hs:sat s id'=.tok t 1 xs.length)
 (hc:∀x∈xs,ME x=true) (v:Value) (hv:AV.ok β (C.iN β s) w (.own 1 id' xs) v):
 ∃B:List Nat,B.Nodup/\(∀b∈B,iG β s id' b/\∃vs t',w.heap[b]?=some (.cells vs t' (0,0)))/\NV w (.sl 1 none xs) v B:=by
 have ho:=h.obs id';rw[hs]at ho;obtain⟨u,hb,htok⟩:=ho;simp only[AV.ok,D.ok]at hv;obtain⟨⟨a,cap,hva,hcap,hnl,hrow⟩,p,q,h1,_,h3⟩:=hv;rw[hb]at h1;obtain⟨rfl,rfl⟩:=h1;have hvu:v=u:=h3 rfl;subst hvu;rcases htok with⟨rfl,k2⟩|⟨b,cap',vs,rfl,k5,k6,k7,k8,k9⟩
 ·have hx:xs=[]:=bQ.1 k2;subst hx;refine⟨[],by simp,by simp,?_⟩;simp only[NV];exact⟨none,0,rfl,⟨aC _,iA⟩,trivial,.inl (by simp)⟩
 ·simp only[ck,eB]at hva;obtain⟨rfl,rfl⟩:=hva;refine⟨[b],by simp,fun q hq=>?_,?_⟩
  ·simp only[aR]at hq;subst hq;exact⟨by unfold iG;rw[hs];exact⟨cap',hb⟩,vs,t,k5⟩
  ·simp only[NV];refine⟨_,cap',rfl,⟨k7,k8⟩,trivial,.inr ⟨b,vs,t,[],rfl,rfl,k5,k6,k9,?_⟩⟩;rcases hrow with rfl|⟨b',o',q2,q3⟩
   ·simp[NR]
   ·cases q2;simpa using K5 k5 hc q3
def je(ds:List D):List AV:=(ds.flatMap iI).map xg
theorem D4{xs ys:List D}:je (xs++ys)=je xs++je ys:=by simp[je]
theorem A0{x:D}{xs:List D}:je (x::xs)=(iI x).map xg++je xs:=by simp[je]
theorem jg{ρ:Nat->Option Nat}:∀{ds:List D},AV.ji ρ (je ds)=je ds:=fun{ds}=>by
 rw[kB];unfold je;rw[eF];refine eY fun x _=>?_
 cases x<;>rfl
def Whole(s:iM)(id' e':Nat)(xs:List D):Prop:=
 (∃t,e'=1/\sat s id'=.tok t 1 xs.length/\∀x∈xs,ME x=true)\/
 (∃t,sat s id'=.lI t e' xs.length (je xs)/\(∀x∈xs,(iI x).length=e')/\∀x∈xs,∀c∈iI x,vz c=true)
theorem Whole.nv{C:Ctx}{β:i_}{s:iM}{w:World}(h:Inv C β s w){id' e':Nat}{xs:List D}(hw:Whole s id' e' xs)(v:Value)(hv:AV.ok β (C.iN β s) w (.own e' id' xs) v):
 ∃B:List Nat,B.Nodup/\(∀b∈B,iG β s id' b/\∃vs t',w.heap[b]?=some (.cells vs t' (0,0)))/\NV w (.sl e' none xs) v B:=by
 rcases hw with⟨t,rfl,h1,h2⟩|⟨t,h1,h2,h3⟩
 ·exact WT h h1 h2 v hv
 ·exact WS h h1 h2 h3 v hv
theorem iW.LF{k:Nat}{env:List AV}{s:iM}(id id':Nat)(pre post:List AV){t e n e':Nat}{cs:List AV}{xs':List D}(hs:sat s id=.lI t e n cs)(hcs:cs=pre++ .own e' id' xs'::post)
 (hk:k<=id') (hne:id≠id') (hw:Whole s id' e' xs'):
 iW k env s (AV.ji (iQ id') env) (sset (jz id' s) id (.lI t e n (AV.ji (iQ id') pre++ .dp (.sl e' none xs')::AV.ji (iQ id') post))):=fun C β a w hC hst=>by
 subst hC;exact hst.LF hne hk (by rw[hs,hcs]) (fun v hv=>hw.nv hst.inv v hv)
theorem St.Uo{C:Ctx}{β:i_}{env:List AV}{s:iM}{a:Act}{w:World}(h:St C β env s a w){id:Nat}(t e:Nat)(hd:sat s id=.dead):
 ∃β',St C β' env (sset s id (.lI t e 0 [])) a w/\(∀x v,AV.ok β (C.iN β s) w x v->AV.ok β' (C.iN β' (sset s id (.lI t e 0 []))) w x v)/\
  AV.ok β' (C.iN β' (sset s id (.lI t e 0 []))) w (.own e id []) (.slice none 0 0):=by
 have hno:β id=.no:=by have:=h.inv.obs id;rw[hd]at this;exact this
 have hown:∀b o,own (iS β id (.lI (.slice none 0 0) 0 [])) (sset s id (.lI t e 0 [])) b o->own β s b o:=by
  intro b o ho;rcases xJ ho with ho|ho
  ·exact ho
  ·obtain⟨i,ho⟩:=ho;by_cases hi:i=id
   ·subst hi;simp[sat,iS]at ho
   ·simp[sat,hi]at ho
 have hblk:∀i b,iG (iS β id (.lI (.slice none 0 0) 0 [])) (sset s id (.lI t e 0 [])) i b->iG β s i b:=by
  intro i b hb;rcases kG hb with⟨_,hb⟩|⟨_,hb⟩
  ·exact hb
  ·simp only[iG,sat,aA,iS]at hb;obtain⟨v',bs',h1,h2⟩:=hb;simp only[Place.lI.injEq,eB]at h1;obtain⟨rfl,rfl⟩:=h1;rcases h2 with⟨_,h2⟩|h2<;>simp at h2
 have m:nT β s w (iS β id (.lI (.slice none 0 0) 0 [])) (sset s id (.lI t e 0 [])) w:=
  ⟨aC _,rfl,fun _ _ _ hc _=>hc,fun _ _ _=>rfl,fun b o ho=>.inl (hown b o ho),fun i b hb=>.inl ⟨i,hblk i b hb⟩,fun i=>by
   by_cases hi:i=id
   ·subst hi;rw[hno];trivial
   ·simp only[iS,hi,aE];exact .refl _⟩
 refine⟨_,h.move m (fun i=>?_) (fun i j b hi hj=>h.inv.inj i j b (hblk i b hi) (hblk j b hj)),fun x v hx=>m.ok hx,?_⟩
 ·rw[jA];by_cases hi:i=id
  ·subst hi;simp only[aA];exact⟨.slice none 0 0,[],by simp[iS],by simp,by simp,.inl ⟨rfl,rfl,rfl⟩⟩
  ·simp only[hi,aE];exact(h.inv.obs i).yq m (by simp[iS,hi]) (fun _ _=>rfl) rfl
 ·simp only[AV.ok,D.ok];exact⟨⟨none,0,rfl,⟨aC _,iA⟩,trivial,.inl trivial⟩,_,0,by simp[iS,Place.at],aC _,fun _=>rfl⟩
theorem uo{ρ:Nat->Option Nat}:∀{xs ys:List AV},AV.ji ρ (xs++ys)=AV.ji ρ xs++AV.ji ρ ys:=fun{xs ys}=>by simp only[kB,aQ]
theorem Cc{ρ:Nat->Option Nat}{xs:List AV}{j:Nat}{x:AV}:AV.ji ρ (xs.set j x)=(AV.ji ρ xs).set j (x.jY ρ):=by simp only[kB,fC]
theorem aaR{C:Ctx}{β:i_}{s:iM}{w:World}(h:Inv C β s w){id' e:Nat}{xs:List D}(hs:sat s id'=.kT e xs.length (je xs))
 (he:∀x∈xs,(iI x).length=e) (hc:∀x∈xs,∀c∈iI x,vz c=true) (v:Value) (hv:AV.ok β (C.iN β s) w (.kU e id' xs.length) v):
 ∃B:List Nat,B.Nodup/\(∀b∈B,iG β s id' b/\∃vs t',w.heap[b]?=some (.cells vs t' (0,0)))/\NV w (.sl e none xs) v B:=by
 have ho:=h.obs id';rw[hs]at ho;obtain⟨u,bs,hb,h0,hl,htok⟩:=ho;simp only[AV.ok]at hv;obtain⟨p,q,h1,_,h3,_⟩:=hv;rw[hb]at h1;obtain⟨rfl,rfl⟩:=h1;have hvu:v=u:=h3 rfl;subst hvu;rcases htok with⟨⟨a,rfl⟩,k2,rfl⟩|⟨b,cap',vs,t,rfl,k5,k6,k7,k8,k9,kc,k10,k11⟩
 ·have hx:xs=[]:=bQ.1 k2;subst hx;refine⟨[],by simp,by simp,?_⟩;simp only[NV];exact⟨a,0,rfl,⟨aC _,iA⟩,trivial,.inl (by simp)⟩
 ·refine⟨b::bs,k10,fun q hq=>?_,?_⟩
  ·rcases bA.1 hq with rfl|hq
   ·exact⟨by unfold iG;rw[hs];exact⟨_,bs,hb,.inl ⟨cap',rfl,kc⟩⟩,vs,t,k5⟩
   ·exact⟨by unfold iG;rw[hs];exact⟨_,bs,hb,.inr hq⟩,h0 q hq⟩
  ·simp only[NV];exact⟨_,cap',rfl,⟨k7,k8⟩,trivial,.inr ⟨b,vs,t,bs,rfl,rfl,k5,k6,k9,CI he hc k11⟩⟩
theorem IP{β:i_}{O:Own}{w:World}{x:D}{v:Value}{bs:List Nat}(hx:vz x=true)(h:NV w x v bs):NX β O w (xg x) v bs:=by
 cases x with
 |any=>cases hx
 |agg cs=>cases hx
 |lit u=>
  simp only[NV]at h;exact⟨by show AV.ok β O w (.d (.lit u)) v;simp only[AV.ok,D.ok];exact⟨h.1,h.2.1⟩,h.2.2⟩
 |sl e nl xs=>exact h
theorem HW{β:i_}{O:Own}{w:World}:∀{cs:List D}{vs r:List Value}{bs:List Nat},(∀x∈cs,vz x=true)->NC w cs vs bs->rQ β O w (cs.map xg) (vs++r) bs
 |[],vs,r,bs,_,h=>by
  simp only[NC]at h;simp only[cJ,rQ];exact h.2
 |c::cs,vs,r,bs,hc,h=>by
  simp only[NC]at h;obtain⟨v,q,b1,b2,rfl,rfl,h3,h4⟩:=h;simp only[aK,bz,rQ];exact⟨v,q++r,b1,b2,rfl,rfl,IP (hc c (by simp)) h3,HW (fun x hx=>hc x (by simp[hx])) h4⟩
theorem CZ{β:i_}{O:Own}{w:World}{e:Nat}:∀{xs:List D}{vs:List Value}{bs:List Nat},(∀x∈xs,(iI x).length=e)->(∀x∈xs,∀c∈iI x,vz c=true)->
 NR w e xs vs bs->rQ β O w (je xs) vs bs
 |[],vs,bs,_,_,h=>by simpa[rQ,NR,je]using h
 |x::xs,vs,bs,he,hc,h=>by
  have ih:=fun r b2=>CZ (β:=β) (O:=O) (w:=w) (e:=e) (xs:=xs) (vs:=r) (bs:=b2) (fun y hy=>he y (by simp[hy])) (fun y hy=>hc y (by simp[hy]))
  have hx:=hc x (by simp);have hle:=he x (by simp);rw[A0];cases x with
  |agg cs=>
   simp only[NR]at h;obtain⟨us,r,b1,b2,rfl,hl,rfl,h3,h4⟩:=h;refine sj (by simpa using hl.trans hle.symm) ?_ (ih r b2 h4);simpa using HW (r:=[]) hx h3
  |any=>exact absurd (hx .any (by simp[iI])) (by simp[vz])
  |lit u=>
   simp only[NR]at h;obtain⟨v,r,b1,b2,rfl,hl,rfl,h3,h4⟩:=h;refine sj (us:=[v]) (by simp[iI]) ?_ (ih r b2 h4);simp only[iI,aK,cJ,rQ];exact⟨v,[],b1,[],rfl,by simp,IP (hx _ (by simp[iI])) h3,rfl⟩
  |sl e' nl ys=>
   simp only[NR]at h;obtain⟨v,r,b1,b2,rfl,hl,rfl,h3,h4⟩:=h;refine sj (us:=[v]) (by simp[iI]) ?_ (ih r b2 h4);simp only[iI,aK,cJ,rQ];exact⟨v,[],b1,[],rfl,by simp,IP (hx _ (by simp[iI])) h3,rfl⟩
def yc(s:iM)(id' e':Nat)(xs:List D):Prop:=sat s id'=.kT e' xs.length (je xs)/\(∀x∈xs,(iI x).length=e')/\∀x∈xs,∀c∈iI x,vz c=true
theorem yc.nv{C:Ctx}{β:i_}{s:iM}{w:World}(h:Inv C β s w){id' e':Nat}{xs:List D}(hw:yc s id' e' xs)(v:Value)(hv:AV.ok β (C.iN β s) w (.kU e' id' xs.length) v):
 ∃B:List Nat,B.Nodup/\(∀b∈B,iG β s id' b/\∃vs t',w.heap[b]?=some (.cells vs t' (0,0)))/\NV w (.sl e' none xs) v B:=aaR h hw.1 hw.2.1 hw.2.2 v hv
theorem FQ{β:i_}{s:iM}{id e n b:Nat}{cs:List AV}(hs:sat s id=.kT e n cs)(hb:iG β s id b)(o:Nat):own β s b o:=⟨id,by unfold iG at hb;rw[hs]at hb⊢;exact hb⟩
theorem EP{α:Type}{cs:List α}{j:Nat}{x y:α}(hj:cs[j]?=some x):cs=cs.take j++x::cs.drop (j+1)/\cs.set j y=cs.take j++y::cs.drop (j+1)/\(cs.take j).length=j:=by
 obtain⟨hlt,rfl⟩:=aO.1 hj;refine⟨?_,cz .. |>.trans (ah hlt),by simp;omega⟩;rw[<-ay hlt,bL]
theorem St.Nu{C:Ctx}{β:i_}{env:List AV}{s:iM}{a:Act}{w:World}(h:St C β env s a w){id id':Nat}(hne:id≠id')(hk:C.k<=id'){e n j e':Nat}{cs:List AV}{xs':List D}
 (hs:sat s id=.kT e n cs) (hj:cs[j]?=some (.kU e' id' xs'.length)) (hw:yc s id' e' xs'):
 ∃β',St C β' (AV.ji (iQ id') env) (sset (jz id' s) id (.kT e n ((AV.ji (iQ id') cs).set j (.dp (.sl e' none xs'))))) a w:=by
 have hnv:=hw.nv h.inv;generalize hd:D.sl e' none xs'=d at hnv⊢;obtain⟨hsp,hsp2,hpl0⟩:=EP (y:=.dp d) hj;have hset:(AV.ji (iQ id') cs).set j (.dp d)=AV.ji (iQ id') (cs.take j)++ .dp d::AV.ji (iQ id') (cs.drop (j+1)):=by
  have e1:=bP (AV.ji (iQ id')) hsp2;rw[Cc,uo]at e1;simpa[AV.ji,AV.jY]using e1
 rw[hset];generalize hpre:cs.take j=pre at hsp hpl0⊢;generalize hpost:cs.drop (j+1)=post at hsp⊢;subst hsp;have ho:=h.inv.obs id;rw[hs]at ho;obtain⟨u,bs,hb,h0,hl,htok⟩:=ho;rcases htok with⟨_,h1,_⟩|⟨b,cap,vs,t,rfl,k5,k6,k7,k8,k9,kc,k10,k11⟩
 ·rw[h1]at hl;simp at hl
 obtain⟨hpl,b1,b2,hbs,hn1,hn2⟩:=xk k11;simp only[rQ]at hn2;obtain⟨v,r,c1,c2,hvr,hb2,hx,hn3⟩:=hn2;obtain⟨hxo,hc1⟩:AV.ok β (C.iN β s) w (.kU e' id' xs'.length) v/\c1=[]:=hx;subst hc1;rw[aZ]at hb2;subst hb2;subst hbs;obtain⟨B,hB1,hB2,hB3⟩:=hnv v hxo;have hm:iG β s id b:=by unfold iG;rw[hs];exact⟨_,_,hb,.inl ⟨cap,rfl,kc⟩⟩
 have hmb:∀q∈b1++b2,iG β s id q:=fun q hq=>by unfold iG;rw[hs];exact⟨_,_,hb,.inr hq⟩
 have hdis:∀q∈B,¬iG β s id q:=fun q hq h2=>hne (h.inv.inj id id' q h2 (hB2 q hq).1)
 let β':i_:=iS (iS β id' .no) id (.lI (.slice (some ⟨b,0,none⟩) n cap) n (b1++(B++b2)));let s':iM:=sset (jz id' s) id (.kT e n (AV.ji (iQ id') pre++ .dp d::AV.ji (iQ id') post));have hβid:β' id=.lI (.slice (some ⟨b,0,none⟩) n cap) n (b1++(B++b2)):=by simp[β',iS]
 have hβo:∀i,i≠id->i≠id'->β' i=β i:=fun i h1 h2=>by simp[β',iS,h1,h2]
 have sat':∀i,sat s' i=if i=id then .kT e n (AV.ji (iQ id') pre++ .dp d::AV.ji (iQ id') post)else if i=id' then .dead else(sat s i).kill id':=fun i=>xu
 have hblk:∀i q,iG β' s' i q->iG β s i q\/i=id/\q∈B:=by
  intro i q hq;unfold iG at hq;rw[sat']at hq;by_cases hi:i=id
  ·subst hi;rw[ah rfl]at hq;simp only at hq;obtain⟨v',q',h1,h2⟩:=hq;rw[hβid]at h1;cases h1;rcases h2 with⟨cap',h2,_⟩|h2
   ·simp at h2;rw[<-h2.1];exact .inl hm
   ·rcases aG.1 h2 with h2|h2
    ·exact .inl (hmb q (by simp[h2]))
    ·rcases aG.1 h2 with h2|h2
     ·exact .inr ⟨rfl,h2⟩
     ·exact .inl (hmb q (by simp[h2]))
  ·rw[aj hi]at hq;by_cases hi':i=id'
   ·rw[ah hi']at hq;exact hq.elim
   ·rw[aj hi']at hq;refine .inl ?_;unfold iG;cases hsi:sat s i<;>rw[hsi]at hq<;>simpa[Ob.kill,hβo i hi hi']using hq
 have hown:∀q o,own β' s' q o->own β s q o:=by
  rintro q o ⟨i,ho⟩;rw[sat']at ho;by_cases hi:i=id
  ·subst hi;rw[ah rfl]at ho;simp only at ho;obtain⟨v',q',h1,h2⟩:=ho;rw[hβid]at h1;cases h1;rcases h2 with⟨cap',h2,_⟩|h2
   ·simp at h2;exact⟨i,by rw[hs];exact⟨_,_,hb,.inl ⟨cap,by rw[h2.1],kc⟩⟩⟩
   ·rcases aG.1 h2 with h2|h2
    ·exact⟨i,by rw[hs];exact⟨_,_,hb,.inr (by simp[h2])⟩⟩
    ·rcases aG.1 h2 with h2|h2
     ·exact FQ hw.1 (hB2 q h2).1 o
     ·exact⟨i,by rw[hs];exact⟨_,_,hb,.inr (by simp[h2])⟩⟩
  ·rw[aj hi]at ho;by_cases hi':i=id'
   ·rw[ah hi']at ho;exact ho.elim
   ·rw[aj hi']at ho;refine⟨i,?_⟩;cases hsi:sat s i<;>rw[hsi]at ho<;>simpa[Ob.kill,hβo i hi hi']using ho
 have hval:∀x v,AV.ok β (C.iN β s) w x v->AV.ok β' (C.iN β' s') w (x.jY (iQ id')) v:=fun x v hx=>
  AV.kA (fun q o v hc hn=>⟨hc,fun hf=>hn (hf.imp (fun x=>x) (hown q o))⟩) (fun i=>by
   by_cases hi:i=id
   ·subst hi;rw[hβid];simp only[iS,aj hne];rw[hb];exact⟨_,_,_,rfl,aC _,fun _=>rfl⟩
   ·simp only[β'];simp only[iS,aj hi];exact .refl _) _ _ (AV.xo (β':=iS β id' .no) (fun i j hij=>by
  unfold iQ at hij;split at hij
  ·cases hij
  ·cases hij;simp[iS, *]) x v hx)
 have hnone:β' id'=.no:=by simp[β',iS];exact fun h=>hne h.symm
 refine⟨β',h.defers,⟨h.inv.size,h.inv.io,h.inv.keep,h.inv.pU,fun q o ho=>h.inv.qz q o (hown q o ho),fun i q hq=>?_,fun i hi=>?_,h.inv.low,fun i=>?_,fun i j q hi hj=>?_⟩,by rw[lN];exact h.len,fun i x hx=>?_⟩
 ·rcases hblk i q hq with h1|⟨_,h1⟩
  ·exact h.inv.sM i q h1
  ·exact h.inv.sM id' q (hB2 q h1).1
 ·have h1:=h.inv.pl i hi;by_cases hii:i=id
  ·subst hii;rw[hβid];rw[hb]at h1;exact h1.trans ⟨_,_,_,rfl,aC _,fun _=>rfl⟩
  ·rw[hβo i hii iA];exact h1
 ·show yb β' (C.iN β' s') w i (sat s' i);rw[sat'];by_cases hi:i=id
  ·subst hi;rw[ah rfl];refine⟨_,_,hβid,fun q hq=>?_,?_,.inr ⟨b,cap,vs,t,rfl,k5,k6,k7,k8,k9,kc,?_,?_⟩⟩
   ·rcases aG.1 hq with hq|hq
    ·exact h0 q (by simp[hq])
    ·rcases aG.1 hq with hq|hq
     ·exact(hB2 q hq).2
     ·exact h0 q (by simp[hq])
   ·rw[<-hl];simp[lN]
   ·have k10':=k10;rw[bX,cc]at k10';obtain⟨p1,p2,p3,p4⟩:=k10';rw[bX,cc,cc];refine⟨fun hq=>?_,p2,⟨hB1,p3,fun x hx y hy he=>hdis x hx (he▸hmb y (by simp[hy]))⟩,fun x hx y hy he=>?_⟩
    ·rcases aG.1 hq with hq|hq
     ·exact p1 (by simp[hq])
     ·rcases aG.1 hq with hq|hq
      ·exact hdis b hq hm
      ·exact p1 (by simp[hq])
    ·rcases aG.1 hy with hy|hy
     ·exact hdis y hy (he▸hmb x (by simp[hx]))
     ·exact p4 x hx y hy he
   ·have e1:=rQ.imp (f:=AV.jY (iQ id')) (β':=β') (O':=C.iN β' s') (w':=w) (fun x v=>ni (hval x v)) (fun _ _=>rfl) hn1;have e2:=rQ.imp (f:=AV.jY (iQ id')) (β':=β') (O':=C.iN β' s') (w':=w) (fun x v=>ni (hval x v)) (fun _ _=>rfl) hn3;rw[<-kB]at e1 e2;have e3:rQ β' (C.iN β' s') w (.dp d::AV.ji (iQ id') post) (vs.toList.drop pre.length) (B++b2):=by
     rw[hvr];simp only[rQ];exact⟨v,r,B,b2,rfl,rfl,hB3,e2⟩
    have e4:=sj (us:=vs.toList.take pre.length) (by rw[bF,lN];omega) (Ab (vs:=vs.toList.take pre.length) e1 (by rw[lN,fJ,gh])) e3;rwa [bL]at e4
  ·rw[aj hi];by_cases hi':i=id'
   ·rw[ah hi',hi'];exact hnone
   ·rw[aj hi'];have ho:=h.inv.obs i;cases hsi:sat s i with
    |dead=>rw[hsi]at ho;exact(hβo i hi hi').trans ho
    |obj t' cs=>
     rw[hsi]at ho;obtain⟨q,us,h1,h2,h3,h4⟩:=ho;refine⟨q,us,(hβo i hi hi').trans h1,h2,h3,h4.imp fun us' hu=>?_⟩;rw[kB];exact DK hval hu
    |tok t' e2 n'=>rw[hsi]at ho;obtain⟨u',h1,h2⟩:=ho;exact⟨u',(hβo i hi hi').trans h1,h2⟩
    |lZ t' e2 n' cs=>
     rw[hsi]at ho;obtain⟨u',h1,h3,h2⟩:=ho;refine⟨u',(hβo i hi hi').trans h1,h3,?_⟩;rcases h2 with h2|⟨q,cap',us,g2,g3,g4,g5,g6,g7,pre',rest,g8,g9⟩
     ·exact .inl h2
     ·exact .inr ⟨q,cap',us,g2,g3,g4,g5,g6,g7,pre',rest,g8,D.jU (fun q o v hc hn=>⟨hc,fun hf=>hn (hf.imp (fun x=>x) fun ho=>hown q o ho)⟩) _ _ g9⟩
    |lI t' e2 n' cs=>
     rw[hsi]at ho;obtain⟨u',bs',h1,h3,h2⟩:=ho;refine⟨u',bs',(hβo i hi hi').trans h1,h3,?_⟩;rw[kB];exact h2.imp (fun x v=>ni (hval x v)) (fun _ _=>rfl) (fun _ _ _=>rfl)
    |kT e2 n' cs=>
     rw[hsi]at ho;obtain⟨u',bs',h1,h3,h2⟩:=ho;refine⟨u',bs',(hβo i hi hi').trans h1,h3,?_⟩;rw[kB];exact h2.imp (fun x v=>ni (hval x v)) (fun _ _=>rfl) (fun _ _ _ _=>rfl)
 ·rcases hblk i q hi with h1|⟨h1,h1'⟩<;>rcases hblk j q hj with h2|⟨h2,h2'⟩
  ·exact h.inv.inj i j q h1 h2
  ·subst h2;have:=h.inv.inj i id' q h1 (hB2 q h2').1;subst this;unfold iG at hi;rw[sat',aj (fun h=>hne h.symm),ah rfl]at hi;exact hi.elim
  ·subst h1;have:=h.inv.inj j id' q h2 (hB2 q h1').1;subst this;unfold iG at hj;rw[sat',aj (fun h=>hne h.symm),ah rfl]at hj;exact hj.elim
  ·rw[h1,h2]
 ·rw[qH]at hx;cases hy:env[i]? with
  |none=>rw[hy]at hx;cases hx
  |some y=>rw[hy]at hx;cases hx;exact hval _ _ (h.env i y hy)
theorem Ce{e:Nat}:∀{xs:List D},(∀x∈xs,(iI x).length=e)->(je xs).length=xs.length*e
 |[],_=>by simp[je]
 |y::ys,he=>by rw[A0,ak,aJ,he y (by simp),Ce (fun x hx=>he x (by simp[hx])),aN,bZ];omega
theorem St.extract{C:Ctx}{β:i_}{env:List AV}{s:iM}{a:Act}{w:World}(h:St C β env s a w){id c j e n e':Nat}{nl:Option Bool}{cs:List AV}{xs:List D}
 (hs:sat s id=.kT e n cs) (hj:cs[j]?=some (.dp (.sl e' nl xs))) (hd:sat s c=.dead) (hk:C.k<=c)
 (he:∀x∈xs,(iI x).length=e') (hc:∀x∈xs,∀c∈iI x,vz c=true):
 ∃β',St C β' env (sset (sset s c (.kT e' xs.length (je xs))) id (.kT e n (cs.set j (.kU e' c xs.length)))) a w:=by
 have hne:id≠c:=fun h=>by rw[h,hd]at hs;cases hs
 obtain⟨hsp,hsp2,hpl0⟩:=EP (y:=.kU e' c xs.length) hj;rw[hsp2];generalize hpre:cs.take j=pre at hsp hpl0⊢;generalize hpost:cs.drop (j+1)=post at hsp⊢;subst hsp;have ho:=h.inv.obs id;rw[hs]at ho;obtain⟨u,bs,hb,h0,hl,htok⟩:=ho;have hno:β c=.no:=by have:=h.inv.obs c;rw[hd]at this;exact this
 rcases htok with⟨_,h1,_⟩|⟨b,cap,vs,t,rfl,k5,k6,k7,k8,k9,kc,k10,k11⟩
 ·rw[h1]at hl;simp at hl
 obtain⟨hpl,b1,b2',hbs,hn1,hn2⟩:=xk k11;simp only[rQ]at hn2;obtain⟨v,r,B,b2,hvr,hb2,hx,hn3⟩:=hn2;subst hb2;subst hbs;have hx:NV w (.sl e' nl xs) v B:=hx;obtain⟨B',hB',hchild,hgv⟩:∃B',(∀(q o:Nat),((∃cap,v=.slice (some ⟨q,0,none⟩) xs.length cap/\0<cap)\/q∈B')->q∈B/\o=o)/\
  ((∀b∈B',∃vs t',w.heap[b]?=some (.cells vs t' (0,0)))/\∀β' F,Dg β' F w e' xs.length v B' (je xs))/\
  ((∃a,v=.slice a 0 0/\xs.length=0)\/∃b cap,v=.slice (some ⟨b,0,none⟩) xs.length cap/\xs.length<=cap/\cap<2^63):=by
  have hlen:=Ce he;simp only[NV]at hx;obtain⟨ad,cap2,rfl,hlc,hnl,hx⟩:=hx;have hz:cap2=0->∃B',(∀(q o:Nat),((∃cap,Value.slice ad xs.length cap2=.slice (some ⟨q,0,none⟩) xs.length cap/\0<cap)\/q∈B')->q∈B/\o=o)/\
   ((∀b∈B',∃vs t',w.heap[b]?=some (.cells vs t' (0,0)))/\∀β' F,Dg β' F w e' xs.length (.slice ad xs.length cap2) B' (je xs))/\
   ((∃a,Value.slice ad xs.length cap2=.slice a 0 0/\xs.length=0)\/∃b cap,Value.slice ad xs.length cap2=.slice (some ⟨b,0,none⟩) xs.length cap/\xs.length<=cap/\cap<2^63):=fun hc0=>by
   have hx0:xs.length=0:=by have:=hlc.1;omega
   refine⟨[],fun q o hq=>?_,⟨by simp,fun β' F=>⟨hlen,.inl ⟨⟨ad,by rw[hx0,hc0]⟩,hx0,rfl⟩⟩⟩,.inl ⟨ad,by rw[hx0,hc0],hx0⟩⟩;rcases hq with⟨q2,hq,hq0⟩|hq
   ·simp only[ck]at hq;omega
   ·simp at hq
  by_cases hc0:cap2=0
  ·exact hz hc0
  rcases hx with⟨hc1,_⟩|⟨g,us,tt,B2,rfl,rfl,g1,g2,g3,g4⟩
  ·exact absurd hc1 hc0
  ·have hnd:(g::B2).Nodup:=by
    have h1:=(bX.1 k10).2;exact(cc.1 (cc.1 h1).2.1).1
   refine⟨B2,fun q o hq=>?_,⟨fun q hq=>h0 q (by simp[hq]),fun β' F=>⟨hlen,.inr ⟨g,cap2,us,tt,rfl,g1,g2,hlc.1,hlc.2,g3,iA,hnd,CZ he hc g4⟩⟩⟩,.inr ⟨g,cap2,rfl,hlc.1,hlc.2⟩⟩;rcases hq with⟨q2,hq,hq0⟩|hq
   ·simp only[ck,aP,fB]at hq;exact⟨by simp[hq.1.1],rfl⟩
   ·exact⟨by simp[hq],rfl⟩
 have hm:iG β s id b:=by unfold iG;rw[hs];exact⟨_,_,hb,.inl ⟨cap,rfl,kc⟩⟩
 have hmb:∀q∈b1++(B++b2),iG β s id q:=fun q hq=>by unfold iG;rw[hs];exact⟨_,_,hb,.inr hq⟩
 have hnod:=bX.1 k10;have hn1':=cc.1 hnod.2;have hn2':=cc.1 hn1'.2.1;let β':i_:=iS (iS β c (.lI v xs.length B')) id (.lI (.slice (some ⟨b,0,none⟩) n cap) n (b1++b2));let s':iM:=sset (sset s c (.kT e' xs.length (je xs))) id (.kT e n (pre++ .kU e' c xs.length::post));have hβid:β' id=.lI (.slice (some ⟨b,0,none⟩) n cap) n (b1++b2):=by simp[β',iS]
 have hβc:β' c=.lI v xs.length B':=by simp[β',iS,gG hne]
 have hβo:∀i,i≠id->i≠c->β' i=β i:=fun i h1 h2=>by simp[β',iS,h1,h2]
 have sat':∀i,sat s' i=if i=id then .kT e n (pre++ .kU e' c xs.length::post)else if i=c then .kT e' xs.length (je xs)else sat s i:=fun i=>by simp only[s',jA]
 have hblk:∀i q,iG β' s' i q->(i=id/\(q=b\/q∈b1++b2))\/(i=c/\q∈B)\/(i≠id/\i≠c/\iG β s i q):=by
  intro i q hq;unfold iG at hq;rw[sat']at hq;by_cases hi:i=id
  ·subst hi;rw[ah rfl]at hq;simp only at hq;obtain⟨v',q',h1,h2⟩:=hq;rw[hβid]at h1;cases h1;refine .inl ⟨rfl,?_⟩;rcases h2 with⟨cap',h2,_⟩|h2
   ·simp at h2;exact .inl h2.1.symm
   ·exact .inr h2
  ·rw[aj hi]at hq;by_cases hi':i=c
   ·subst hi';rw[ah rfl]at hq;simp only at hq;obtain⟨v',q',h1,h2⟩:=hq;rw[hβc]at h1;cases h1;exact .inr (.inl ⟨rfl,(hB' q 0 h2).1⟩)
   ·rw[aj hi']at hq;refine .inr (.inr ⟨hi,hi',?_⟩);unfold iG;cases hsi:sat s i<;>rw[hsi]at hq<;>simpa[hβo i hi hi']using hq
 have hblk2:∀i q,iG β' s' i q->∃i',iG β s i' q:=fun i q hq=>by
  rcases hblk i q hq with⟨rfl,rfl|h1⟩|⟨rfl,h1⟩|⟨_,_,h1⟩
  ·exact⟨_,hm⟩
  ·refine⟨i,hmb q ?_⟩;rcases aG.1 h1 with h1|h1<;>simp[h1]
  ·exact⟨id,hmb q (by simp[h1])⟩
  ·exact⟨i,h1⟩
 have hown:∀q o,own β' s' q o->own β s q o:=by
  rintro q o ⟨i,ho⟩;by_cases hi:i=id
  ·subst hi;rw[sat',ah rfl]at ho;have:iG β' s' i q:=by unfold iG;rw[sat',ah rfl];exact ho
   obtain⟨_,h1⟩|⟨h1,_⟩|⟨h1,_⟩:=hblk i q this
   ·refine FQ hs ?_ o;rcases h1 with rfl|h1
    ·exact hm
    ·refine hmb q ?_;rcases aG.1 h1 with h1|h1<;>simp[h1]
   ·exact absurd h1 hne
   ·exact absurd rfl h1
  ·by_cases hi':i=c
   ·subst hi';rw[sat',aj hi,ah rfl]at ho;have:iG β' s' i q:=by unfold iG;rw[sat',aj hi,ah rfl];exact ho
    obtain⟨h1,_⟩|⟨_,h1⟩|⟨_,h1,_⟩:=hblk i q this
    ·exact absurd h1 hi
    ·exact FQ hs (hmb q (by simp[h1])) o
    ·exact absurd rfl h1
   ·rw[sat',aj hi,aj hi']at ho;refine⟨i,?_⟩;cases hsi:sat s i<;>rw[hsi]at ho<;>simpa[hβo i hi hi']using ho
 have hple:∀i,m_ (β i) (β' i):=fun i=>by
  by_cases hi:i=id
  ·subst hi;rw[hβid,hb];exact⟨_,_,_,rfl,aC _,fun _=>rfl⟩
  ·by_cases hi':i=c
   ·subst hi';rw[hno];trivial
   ·rw[hβo i hi hi'];exact .refl _
 have hval:∀x v,AV.ok β (C.iN β s) w x v->AV.ok β' (C.iN β' s') w x v:=fun x v hx=>
  AV.kA (fun q o v hc hn=>⟨hc,fun hf=>hn (hf.imp (fun x=>x) (hown q o))⟩) hple _ _ hx
 refine⟨β',h.defers,⟨h.inv.size,h.inv.io,h.inv.keep,h.inv.pU,fun q o ho=>h.inv.qz q o (hown q o ho),fun i q hq=>?_,fun i hi=>(h.inv.pl i hi).trans (hple i),h.inv.low,fun i=>?_,fun i j q hi hj=>?_⟩,h.len,fun i x hx=>hval _ _ (h.env i x hx)⟩
 ·obtain⟨i',h1⟩:=hblk2 i q hq;exact h.inv.sM i' q h1
 ·show yb β' (C.iN β' s') w i (sat s' i);rw[sat'];by_cases hi:i=id
  ·subst hi;rw[ah rfl];refine⟨_,_,hβid,fun q hq=>h0 q (by rcases aG.1 hq with h1|h1<;>simp[h1]),by rw[<-hl];simp,.inr ⟨b,cap,vs,t,rfl,k5,k6,k7,k8,k9,kc,?_,?_⟩⟩
   ·refine bX.2 ⟨fun hq=>hnod.1 (by rcases aG.1 hq with h1|h1<;>simp[h1]),cc.2 ⟨hn1'.1,hn2'.2.1,fun x hx y hy=>hn1'.2.2 x hx y (by simp[hy])⟩⟩
   ·have e1:=rQ.imp (f:=fun x=>x) (β':=β') (O':=C.iN β' s') (w':=w) (xG hval) (fun _ _=>rfl) hn1;have e2:=rQ.imp (f:=fun x=>x) (β':=β') (O':=C.iN β' s') (w':=w) (xG hval) (fun _ _=>rfl) hn3;rw[gj]at e1 e2;have e3:rQ β' (C.iN β' s') w (.kU e' c xs.length::post) (vs.toList.drop pre.length) b2:=by
     rw[hvr];simp only[rQ];refine⟨v,r,[],b2,rfl,rfl,⟨?_,rfl⟩,e2⟩;show AV.ok β' (C.iN β' s') w (.kU e' c xs.length) v;simp only[AV.ok];exact⟨v,xs.length,by rw[hβc];exact⟨rfl,rfl⟩,aC _,fun _=>rfl,hgv⟩
    have e4:=sj (us:=vs.toList.take pre.length) (by rw[bF];omega) (Ab (vs:=vs.toList.take pre.length) e1 (by rw[fJ,gh])) e3;rwa [bL]at e4
  ·rw[aj hi];by_cases hi':i=c
   ·subst hi';rw[ah rfl];exact⟨v,B',hβc,hchild.1,hchild.2 _ _⟩
   ·rw[aj hi'];have ho:=h.inv.obs i;cases hsi:sat s i with
    |dead=>rw[hsi]at ho;exact(hβo i hi hi').trans ho
    |obj t' cs=>
     rw[hsi]at ho;obtain⟨q,us,h1,h2,h3,h4⟩:=ho;exact⟨q,us,(hβo i hi hi').trans h1,h2,h3,h4.imp fun us' hu=>GZ hval hu⟩
    |tok t' e2 n'=>rw[hsi]at ho;obtain⟨u',h1,h2⟩:=ho;exact⟨u',(hβo i hi hi').trans h1,h2⟩
    |lZ t' e2 n' cs=>
     rw[hsi]at ho;obtain⟨u',h1,h3,h2⟩:=ho;refine⟨u',(hβo i hi hi').trans h1,h3,?_⟩;rcases h2 with h2|⟨q,cap',us,g2,g3,g4,g5,g6,g7,pre',rest,g8,g9⟩
     ·exact .inl h2
     ·exact .inr ⟨q,cap',us,g2,g3,g4,g5,g6,g7,pre',rest,g8,D.jU (fun q o v hc hn=>⟨hc,fun hf=>hn (hf.imp (fun x=>x) fun ho=>hown q o ho)⟩) _ _ g9⟩
    |lI t' e2 n' cs=>
     rw[hsi]at ho;obtain⟨u',bs',h1,h3,h2⟩:=ho;refine⟨u',bs',(hβo i hi hi').trans h1,h3,?_⟩;have:=h2.imp (f:=fun x=>x) (xG hval) (fun _ _=>rfl) (fun _ _ _=>rfl);rwa [gj]at this
    |kT e2 n' cs=>
     rw[hsi]at ho;obtain⟨u',bs',h1,h3,h2⟩:=ho;refine⟨u',bs',(hβo i hi hi').trans h1,h3,?_⟩;have:=h2.imp (f:=fun x=>x) (xG hval) (fun _ _=>rfl) (fun _ _ _ _=>rfl);rwa [gj]at this
 ·have hdisj:∀q,q∈B->¬(q=b\/q∈b1++b2):=fun q hq h1=>by
   rcases h1 with rfl|h1
   ·exact hnod.1 (by simp[hq])
   ·rcases aG.1 h1 with h1|h1
    ·exact hn1'.2.2 q h1 q (by simp[hq]) rfl
    ·exact hn2'.2.2 q hq q h1 rfl
  have hid:∀q,(q=b\/q∈b1++b2)->iG β s id q:=fun q h1=>by
   rcases h1 with rfl|h1
   ·exact hm
   ·exact hmb q (by rcases aG.1 h1 with h1|h1<;>simp[h1])
  rcases hblk i q hi with⟨a1,d1⟩|⟨a1,d1⟩|⟨a1,a1',d1⟩<;>rcases hblk j q hj with⟨a2,d2⟩|⟨a2,d2⟩|⟨a2,a2',d2⟩
  ·rw[a1,a2]
  ·exact absurd d1 (hdisj q d2)
  ·exact absurd (h.inv.inj _ _ q d2 (hid q d1)) a2
  ·exact absurd d2 (hdisj q d1)
  ·rw[a1,a2]
  ·exact absurd (h.inv.inj _ _ q d2 (hmb q (by simp[d1]))) a2
  ·exact absurd (h.inv.inj _ _ q d1 (hid q d2)) a1
  ·exact absurd (h.inv.inj _ _ q d1 (hmb q (by simp[d2]))) a1
  ·exact h.inv.inj i j q d1 d2
theorem iW.extract{k:Nat}{env:List AV}{s:iM}(id c j:Nat){e n e':Nat}{nl:Option Bool}{cs:List AV}{xs:List D}
 (hs:sat s id=.kT e n cs) (hj:cs[j]?=some (.dp (.sl e' nl xs))) (hd:sat s c=.dead) (hk:k<=c)
 (he:∀x∈xs,(iI x).length=e') (hc:∀x∈xs,∀c∈iI x,vz c=true):
 iW k env s env (sset (sset s c (.kT e' xs.length (je xs))) id (.kT e n (cs.set j (.kU e' c xs.length)))):=fun C β a w hC hst=>by
 subst hC;exact hst.extract hs hj hd hk he hc
theorem Qt{w:World}{e:Nat}{nl:Option Bool}{xs:List D}{v:Value}{B:List Nat}(hx:NV w (.sl e nl xs) v B)(hnd:B.Nodup)(h0:∀b∈B,∃vs t',w.heap[b]?=some (.cells vs t' (0,0)))
 (he:∀x∈xs,(iI x).length=e) (hc:∀x∈xs,∀c∈iI x,vz c=true):
 ∃B',(∀q:Nat,((∃cap,v=.slice (some ⟨q,0,none⟩) xs.length cap/\0<cap)\/q∈B')->q∈B)/\
  ((∀b∈B',∃vs t',w.heap[b]?=some (.cells vs t' (0,0)))/\∀β' F,Dg β' F w e xs.length v B' (je xs))/\
  ((∃a,v=.slice a 0 0/\xs.length=0)\/∃b cap,v=.slice (some ⟨b,0,none⟩) xs.length cap/\xs.length<=cap/\cap<2^63):=by
 have hlen:=Ce he;simp only[NV]at hx;obtain⟨ad,cap2,rfl,hlc,hnl,hx⟩:=hx;by_cases hc0:cap2=0
 ·have hx0:xs.length=0:=by have:=hlc.1;omega
  refine⟨[],fun q hq=>?_,⟨by simp,fun β' F=>⟨hlen,.inl ⟨⟨ad,by rw[hx0,hc0]⟩,hx0,rfl⟩⟩⟩,.inl ⟨ad,by rw[hx0,hc0],hx0⟩⟩;rcases hq with⟨q2,hq,hq0⟩|hq
  ·simp only[ck]at hq;omega
  ·simp at hq
 rcases hx with⟨hc1,_⟩|⟨g,us,tt,B2,rfl,rfl,g1,g2,g3,g4⟩
 ·exact absurd hc1 hc0
 ·refine⟨B2,fun q hq=>?_,⟨fun q hq=>h0 q (by simp[hq]),fun β' F=>⟨hlen,.inr ⟨g,cap2,us,tt,rfl,g1,g2,hlc.1,hlc.2,g3,iA,hnd,CZ he hc g4⟩⟩⟩,.inr ⟨g,cap2,rfl,hlc.1,hlc.2⟩⟩;rcases hq with⟨q2,hq,hq0⟩|hq
  ·simp only[ck,aP,fB]at hq;simp[hq.1.1]
  ·simp[hq]
mutual
theorem NV.ok{O:Own}{w:World}:∀{x:D}{v:Value}{bs:List Nat},NV w x v bs->(∀b∈bs,∀o,¬O b o)->D.ok O w x v
 |.any,_,_=>fun h _=>h.elim
 |.agg _,_,_=>fun h _=>h.elim
 |.lit u,v,bs=>fun h _=>by
  simp only[NV]at h;simp only[D.ok];exact⟨h.1,h.2.1⟩
 |.sl e nl xs,v,bs=>fun h hO=>by
  simp only[NV]at h;simp only[D.ok];obtain⟨a,cap,rfl,h2,h3,h4⟩:=h;refine⟨a,cap,rfl,h2,h3,?_⟩;rcases h4 with⟨_,rfl,_⟩|⟨b,vs,t,bs',rfl,rfl,h5,h6,h7,h8⟩
  ·exact .inl rfl
  ·refine .inr ⟨b,0,rfl,NR.row h8 (fun q hq=>hO q (by simp[hq])) fun j u hj=>?_⟩;refine⟨?_,hO b (by simp) _,h7 u (bW hj)⟩;simp only[World.cell?,h5,cA,aq,aE,bU];simpa using hj
theorem NC.jk{O:Own}{w:World}:∀{xs:List D}{vs:List Value}{bs:List Nat},NC w xs vs bs->(∀v∈vs,one v=true)->(∀b∈bs,∀o,¬O b o)->D.jk O w xs vs
 |[],vs,bs=>fun h _ _=>by
  simp only[NC]at h;simp only[D.jk];exact h.1
 |c::cs,vs,bs=>fun h h1 hO=>by
  simp only[NC]at h;obtain⟨v,r,b1,b2,rfl,rfl,h3,h4⟩:=h;simp only[D.jk];exact⟨v,r,rfl,h1 v (by simp),NV.ok h3 (fun b hb=>hO b (by simp[hb])),NC.jk h4 (fun v hv=>h1 v (by simp[hv])) (fun b hb=>hO b (by simp[hb]))⟩
theorem NR.row{O:Own}{w:World}{b o e:Nat}:∀{xs:List D}{vs:List Value}{bs:List Nat},NR w e xs vs bs->(∀b∈bs,∀o,¬O b o)->lp O w b o vs->D.row O w b o e xs
 |[],_,_=>fun _ _ _=>by simp[D.row]
 |.agg cs::xs,vs,bs=>fun h hO hc=>by
  simp only[NR]at h;obtain⟨us,r,b1,b2,rfl,hl,rfl,h3,h4⟩:=h;simp only[D.row];have hc1:lp O w b o us:=fun j v hj=>hc j v (by rw[aV (aO.1 hj).1];exact hj)
  have hc2:lp O w b (o+e) r:=fun j v hj=>by
   have:=hc (e+j) v (by rw[bJ iA,hl,cF];exact hj);rwa [<-di]at this
  exact⟨⟨us,hl,hc1,NC.jk h3 (fun v hv=>by obtain⟨j,hj⟩:=cI hv;exact(hc1 j v hj).2.2) fun b hb=>hO b (by simp[hb])⟩,NR.row h4 (fun b hb=>hO b (by simp[hb])) hc2⟩
 |.any::xs,vs,bs=>fun h hO hc=>by
  simp only[NR]at h;obtain⟨v,r,b1,b2,rfl,rfl,rfl,h3,h4⟩:=h;exact h3.elim
 |.lit u::xs,vs,bs=>fun h hO hc=>by
  have hq:=fun v b1=>NV.ok (O:=O) (w:=w) (x:=.lit u) (v:=v) (bs:=b1)
  simp only[NR]at h;obtain⟨v,r,b1,b2,rfl,rfl,rfl,h3,h4⟩:=h;simp only[D.row];refine⟨⟨v,by trivial,fun j u hj=>?_,hq v b1 h3 (fun b hb=>hO b (by simp[hb]))⟩,NR.row h4 (fun b hb=>hO b (by simp[hb])) fun j u hj=>?_⟩
  ·cases j with
   |zero=>exact hc 0 u (by simpa using hj)
   |succ j=>simp at hj
  ·have:=hc (1+j) u (by rw[cP];simpa using hj);rwa [<-di]at this
 |.sl e' nl ys::xs,vs,bs=>fun h hO hc=>by
  have hq:=fun v b1=>NV.ok (O:=O) (w:=w) (x:=.sl e' nl ys) (v:=v) (bs:=b1)
  simp only[NR]at h;obtain⟨v,r,b1,b2,rfl,rfl,rfl,h3,h4⟩:=h;simp only[D.row];refine⟨⟨v,by trivial,fun j u hj=>?_,hq v b1 h3 (fun b hb=>hO b (by simp[hb]))⟩,NR.row h4 (fun b hb=>hO b (by simp[hb])) fun j u hj=>?_⟩
  ·cases j with
   |zero=>exact hc 0 u (by simpa using hj)
   |succ j=>simp at hj
  ·have:=hc (1+j) u (by rw[cP];simpa using hj);rwa [<-di]at this
end
mutual
inductive A_(s:iM):AV->D->Prop
 |le {x:AV} {a:D} (h:AV.le x (.d a)):A_ s x a
 |kU {e id n:Nat} {xs:List D} (h:yc s id e xs) (hn:n=xs.length):A_ s (.kU e id n) (.sl e none xs)
 |agg {xs:List AV} {ds:List D} (h:yW s xs ds):A_ s (.agg xs) (.agg ds)
inductive yW(s:iM):List AV->List D->Prop
 |nil:yW s [] []
 |cons {x:AV} {a:D} {xs:List AV} {ds:List D} (h:A_ s x a) (hs:yW s xs ds):yW s (x::xs) (a::ds)
end
theorem KI{C:Ctx}{β:i_}{s:iM}{w:World}(h:Inv C β s w){e id n:Nat}{xs:List D}(hw:yc s id e xs)(hn:n=xs.length){v:Value}(hv:AV.ok β (C.iN β s) w (.kU e id n) v):D.ok C.O w (.sl e none xs) v:=by
 subst hn;obtain⟨B,h1,h2,h3⟩:=hw.nv h v hv;refine NV.ok h3 fun b hb o hO=>?_
 have hl:=h.low b o hO;rcases h.qz b o (FQ hw.1 (h2 b hb).1 o)with h4|h4
 ·exact hl.2 h4
 ·omega
theorem D.WW{O O':Own}{w:World}(h:∀b o,O' b o->O b o){x:D}{v:Value}(hx:D.ok O w x v):D.ok O' w x v:=D.kA (fun _ _ _ hc hn=>⟨hc,fun ho=>hn (h _ _ ho)⟩) x v hx
mutual
theorem A_.ok{C:Ctx}{β:i_}{s:iM}{w:World}(h:Inv C β s w):∀{x:AV}{a:D}{v:Value},A_ s x a->AV.ok β (C.iN β s) w x v->D.ok C.O w a v
 |_,_,v,.le hl,hv=>by
  have:=hl _ _ _ _ hv;simp only[AV.ok]at this;exact D.WW (fun b o ho=>.inl ho) this
 |_,_,v,.kU hw hn,hv=>KI h hw hn hv
 |_,_,v,.agg hl,hv=>by
  simp only[AV.ok]at hv;obtain⟨vs,rfl,h1,h2⟩:=hv;simp only[D.ok];exact⟨vs,rfl,yW.jk h hl h1 h2⟩
theorem yW.jk{C:Ctx}{β:i_}{s:iM}{w:World}(h:Inv C β s w):∀{xs:List AV}{ds:List D}{vs:List Value},yW s xs ds->(∀u∈vs,one u=true)->AV.jk β (C.iN β s) w xs vs->D.jk C.O w ds vs
 |_,_,vs,.nil,_,hv=>by simpa[AV.jk,D.jk]using hv
 |_,_,vs,.cons hl hs,h1,hv=>by
  simp only[AV.jk]at hv;obtain⟨v,r,rfl,h2,h3⟩:=hv;simp only[D.jk];exact⟨v,r,rfl,h1 v (by simp),A_.ok h hl h2,yW.jk h hs (fun u hu=>h1 u (by simp[hu])) h3⟩
end
theorem yW.args{C:Ctx}{β:i_}{s:iM}{w:World}(h:Inv C β s w):∀{xs:List AV}{ds:List D}{vs:List Value},yW s xs ds->AV.jk β (C.iN β s) w xs vs->∀β',AV.jk β' C.O w (ds.map .d) vs
 |_,_,vs,.nil,hv,β'=>by simpa[AV.jk]using hv
 |_,_,vs,.cons hl hs,hv,β'=>by
  simp only[AV.jk]at hv;obtain⟨v,r,rfl,h2,h3⟩:=hv;simp only[aK,AV.jk];exact⟨v,r,rfl,by simp only[AV.ok];exact A_.ok h hl h2,yW.args h hs h3 β'⟩
theorem Inv.grown{C:Ctx}{β:i_}{s:iM}{w w':World}(h:Inv C β s w)(hs:w.heap.size<=w'.heap.size)(hio:Cv w'=Cv w)(hk:∀b,b<w.heap.size->w'.heap[b]?=w.heap[b]?):Inv C β s w':=
 (St.grow (env:=[]) (a:={tmps:=#[],defers:=[]}) ⟨.nil,h,rfl,fun i x hx=>by simp at hx⟩ hs hio hk).inv
def uH(C:Ctx):Ctx:={O:=C.O,β:=fun _=>.no,s:=[],w:=C.w,k:=0}
theorem uH.inv{C:Ctx}(h:Inv C C.β C.s C.w):Inv (uH C) (uH C).β (uH C).s (uH C).w where
 size:=aC _
 io:=rfl
 keep:=fun _ _ _ h _=>h
 pU:=fun _ _ _=>rfl
 qz:=fun _ _ h=>.inl h
 sM:=fun id _ h=>.inl ⟨id,h⟩
 pl:=fun _ _=>.refl _
 low:=fun b o ho=>⟨(h.low b o ho).1,fun⟨id,hq⟩=>hq.elim⟩
 obs:=fun _=>rfl
 inj:=fun _ _ _ h=>h.elim
theorem uH.grown{C:Ctx}(h:Inv C C.β C.s C.w){β':i_}{s':iM}{w':World}(hi:Inv (uH C) β' s' w'):Inv C C.β C.s w':=
 h.grown hi.size hi.io fun b hb=>hi.pU b hb fun id hq=>hq.elim
theorem uH.iN{C:Ctx}:(uH C).iN (uH C).β (uH C).s=C.O:=by
 funext b o;refine propext ⟨fun h=>h.elim id fun⟨_,h⟩=>h.elim,.inl⟩
theorem iR.acZ{P:Program}{f:Nat}{dz:List D}{u:Value}(hc:jK P f dz (.lit u)){args:List AV}{s:iM}{k:Nat}(hl:yW s args dz):
 iR P f args s k fun x s'=>x=.d (.lit u)/\s'=s:=fun C vs hs hk hinv hargs=>by
 subst hs;refine(hc (uH C) vs rfl rfl (uH.inv hinv) (by rw[uH.iN];exact yW.args hinv hl hargs _)).mono ?_;rintro e w' ⟨v,x,β',s',rfl,hi,hx,rfl⟩;refine⟨v,.d (.lit u),C.β,C.s,rfl,uH.grown hinv hi,?_,rfl,rfl⟩;simp only[AV.ok,D.ok]at hx⊢;exact hx
mutual
def bare:AV->Bool
 |.d (.lit _)=>true
 |.kU _ _ _=>true
 |.agg cs=>JZ cs
 |.kZ cs=>JZ cs
 |_=>false
def JZ:List AV->Bool
 |[]=>true
 |x::xs=>bare x&&JZ xs
end
mutual
theorem Ny{β β':i_}{O O':Own}{w w':World}(hb:∀id,β' id=β id\/β id=.no):∀{x:AV}{v:Value},bare x=true->AV.ok β O w x v->AV.ok β' O' w' x v
 |.d (.lit u),v,_,h=>by simp only[AV.ok,D.ok]at h⊢;exact h
 |.kU e id n,v,_,h=>by
  simp only[AV.ok]at h⊢;obtain⟨u,m,h1,h2⟩:=h;refine⟨u,m,?_,h2⟩;rcases hb id with h3|h3
  ·rw[h3];exact h1
  ·rw[h3]at h1;exact h1.elim
 |.agg cs,v,hx,h=>by
  simp only[AV.ok]at h⊢;obtain⟨vs,h1,h2,h3⟩:=h;exact⟨vs,h1,h2,Gb hb (by simpa[bare]using hx) h3⟩
 |.kZ cs,v,hx,h=>by
  simp only[AV.ok]at h⊢;obtain⟨vs,h1,h3⟩:=h;exact⟨vs,h1,Gb hb (by simpa[bare]using hx) h3⟩
 |.iO,_,hx,_=>by simp[bare]at hx
 |.d .any,_,hx,_=>by simp[bare]at hx
 |.d (.agg _),_,hx,_=>by simp[bare]at hx
 |.d (.sl _ _ _),_,hx,_=>by simp[bare]at hx
 |.own _ _ _,_,hx,_=>by simp[bare]at hx
 |.ptr _ _,_,hx,_=>by simp[bare]at hx
 |.su _ _ _ _,_,hx,_=>by simp[bare]at hx
 |.pv _,_,hx,_=>by simp[bare]at hx
 |.fn _ _ _,_,hx,_=>by simp[bare]at hx
 |.mC _ _ _,_,hx,_=>by simp[bare]at hx
 |.Ey _ _,_,hx,_=>by simp[bare]at hx
 |.dp _,_,hx,_=>by simp[bare]at hx
theorem Gb{β β':i_}{O O':Own}{w w':World}(hb:∀id,β' id=β id\/β id=.no):∀{xs:List AV}{vs:List Value},JZ xs=true->AV.jk β O w xs vs->AV.jk β' O' w' xs vs
 |[],_,_,h=>by simpa[AV.jk]using h
 |x::xs,vs,hx,h=>by
  simp only[JZ,bh]at hx;simp only[AV.jk]at h⊢;obtain⟨v,r,h1,h2,h3⟩:=h;exact⟨v,r,h1,Ny hb hx.1 h2,Gb hb hx.2 h3⟩
end
def toks(tl:List (Nat×Nat×List D)):iM:=tl.map fun p=>(p.1,.kT p.2.1 p.2.2.length (je p.2.2))
theorem DV:∀{tl:List (Nat×Nat×List D)}{id:Nat},sat (toks tl) id=.dead\/∃e ds,(id,e,ds)∈tl/\sat (toks tl) id=.kT e ds.length (je ds)
 |[],_=>.inl rfl
 |(i,e,ds)::r,id=>by
  simp only[toks,aK,sat];by_cases h:id=i
  ·subst h;exact .inr ⟨e,ds,by simp,by simp⟩
  ·rcases DV (tl:=r) (id:=id)with h1|⟨e',ds',h1,h2⟩
   ·left;rw[aj h];exact h1
   ·right;exact⟨e',ds',by simp[h1],by rw[aj h];exact h2⟩
theorem G8{s t:iM}{id:Nat}:sat (s++t) id=if id∈s.map (·.1)then sat s id else sat t id:=by
 induction s with
 |nil=>simp
 |cons p r ih=>
  obtain⟨j,x⟩:=p;simp only[bz,sat,aK,bA];by_cases h:id=j
  ·simp[h]
  ·simp only[h,aE,false_or,ih]
theorem Qx{s:iM}{id:Nat}(h:id∉s.map (·.1)):sat s id=.dead:=by
 induction s with
 |nil=>rfl
 |cons p r ih=>
  obtain⟨j,x⟩:=p;simp only[aK,bA,not_or]at h;simp only[sat,h.1,aE];exact ih h.2
theorem iR.ac0{P:Program}{f:Nat}{dz:List D}{y:AV}{tl:List (Nat×Nat×List D)}(hc:iR P f (dz.map .d) [] 0 fun x s'=>x=y/\s'=toks tl)(hy:bare y=true)
 {args:List AV} {s:iM} {k:Nat} (hl:yW s args dz) (hd:∀p∈tl,p.1∉s.map (·.1)/\k<=p.1) (hcl:∀p∈tl,∀x∈p.2.2,∀c∈iI x,vz c=true):
 iR P f args s k fun x s'=>x=y/\s'=s++toks tl:=fun C vs hs hk hinv hargs=>by
 subst hs;subst hk;refine(hc (uH C) vs rfl rfl (uH.inv hinv) (by rw[uH.iN];exact yW.args hinv hl hargs _)).mono ?_;rintro e w' ⟨v,x,β',s',rfl,hi,hx,rfl,rfl⟩;have hg:=uH.grown hinv hi;let β2:i_:=fun id=>if id∈C.s.map (·.1)then C.β id else β' id
 have hdead:∀id,id∈C.s.map (·.1)->sat (toks tl) id=.dead:=fun id hid=>by
  rcases DV (tl:=tl) (id:=id)with h|⟨e,ds,h1,_⟩
  ·exact h
  ·exact absurd hid (hd _ h1).1
 have hno:∀id,id∉C.s.map (·.1)->C.β id=.no:=fun id hid=>by
  have:=hinv.obs id;rw[Qx hid]at this;exact this
 have hno':∀id,id∈C.s.map (·.1)->β' id=.no:=fun id hid=>by
  have:=hi.obs id;rw[hdead id hid]at this;exact this
 have b1:∀id,id∈C.s.map (·.1)->β2 id=C.β id/\sat (C.s++toks tl) id=sat C.s id:=fun id hid=>⟨by simp only[β2,hid,aA],by rw[G8,ah hid]⟩
 have b2:∀id,id∉C.s.map (·.1)->β2 id=β' id/\sat (C.s++toks tl) id=sat (toks tl) id:=fun id hid=>⟨by simp only[β2,hid,aE],by rw[G8,aj hid]⟩
 have hblk:∀id b,iG β2 (C.s++toks tl) id b->(id∈C.s.map (·.1)/\iG C.β C.s id b)\/(id∉C.s.map (·.1)/\iG β' (toks tl) id b/\C.w.heap.size<=b):=fun id b hb=>by
  by_cases hid:id∈C.s.map (·.1)
  ·exact .inl ⟨hid,(AH (b1 id hid).1 (b1 id hid).2).1 hb⟩
  ·have h1:=(AH (b2 id hid).1 (b2 id hid).2).1 hb;rcases hi.sM id b h1 with⟨i,h2⟩|h2
   ·exact h2.elim
   ·exact .inr ⟨hid,h1,h2⟩
 have hown:∀b o,own β2 (C.s++toks tl) b o->own C.β C.s b o\/C.w.heap.size<=b:=fun b o ⟨id,ho⟩=>by
  by_cases hid:id∈C.s.map (·.1)
  ·exact .inl ⟨id,(CT (b1 id hid).1 (b1 id hid).2).1 ho⟩
  ·have h1:own β' (toks tl) b o:=⟨id,(CT (b2 id hid).1 (b2 id hid).2).1 ho⟩;rcases hi.qz b o h1 with⟨i,h2⟩|h2
   ·exact h2.elim
   ·exact .inr h2
 refine⟨v,x,β2,_,rfl,⟨hg.size,hg.io,hg.keep,hg.pU,fun b o ho=>hown b o ho,fun id b hb=>?_,fun id hid=>?_,hg.low,fun id=>?_,fun i j b h1 h2=>?_⟩,?_,rfl,rfl⟩
 ·rcases hblk id b hb with⟨_,h1⟩|⟨_,_,h1⟩
  ·exact .inl ⟨id,h1⟩
  ·exact .inr h1
 ·by_cases hm:id∈C.s.map (·.1)
  ·rw[(b1 id hm).1];exact .refl _
  ·rw[hno id hm];trivial
 ·by_cases hid:id∈C.s.map (·.1)
  ·rw[(b1 id hid).2];have m:nT C.β C.s C.w β2 (C.s++toks tl) w':=by
    refine⟨hg.size,hg.io,fun b o v hcell hn=>?_,fun b hb hn=>hi.pU b hb fun id hq=>hq.elim,hown,fun id b hb=>?_,fun id=>?_⟩
    ·rw[<-hcell];exact cL (hi.pU b (qR hcell) fun id hq=>hq.elim)
    ·rcases hblk id b hb with⟨_,h1⟩|⟨_,_,h1⟩
     ·exact .inl ⟨id,h1⟩
     ·exact .inr h1
    ·by_cases hm:id∈C.s.map (·.1)
     ·rw[(b1 id hm).1];exact .refl _
     ·rw[hno id hm];trivial
   exact(hinv.obs id).yq (C:=C) m (b1 id hid).1 (fun b hb=>hi.pU b (hinv.tN hb) fun id hq=>hq.elim) rfl
  ·rw[(b2 id hid).2];have ho:=hi.obs id;rcases DV (tl:=tl) (id:=id)with h|⟨e,ds,h1,h2⟩
   ·rw[h]at ho⊢;exact(b2 id hid).1.trans ho
   ·rw[h2]at ho⊢;obtain⟨u,bs,g1,g2,g3⟩:=ho;refine⟨u,bs,(b2 id hid).1.trans g1,g2,g3.1,?_⟩;rcases g3.2 with g4|⟨b,cap,us,t,k1,k2,k3,k4,k5,k6,k7,k8,k9⟩
    ·exact .inl g4
    ·refine .inr ⟨b,cap,us,t,k1,k2,k3,k4,k5,k6,k7,k8,?_⟩;have hbare:∀(cs:List AV)(us:List Value)(bs:List Nat),rQ β' ((uH C).iN β' (toks tl)) w' cs us bs->(∀x∈cs,(∃d,x=.dp d)\/∃u,x=.d (.lit u))->rQ β2 (C.iN β2 (C.s++toks tl)) w' cs us bs:=fun cs=>by
      induction cs with
      |nil=>intro us bs h _;simpa[rQ]using h
      |cons x xs ih=>
       intro us bs h h2;simp only[rQ]at h⊢;obtain⟨v,r,c1,c2,rfl,rfl,h3,h4⟩:=h;refine⟨v,r,c1,c2,rfl,rfl,?_,ih r c2 h4 fun x hx=>h2 x (by simp[hx])⟩;rcases h2 x (by simp)with⟨d,rfl⟩|⟨u,rfl⟩
       ·exact h3
       ·obtain⟨h5,h6⟩:=h3;have h5:AV.ok β' ((uH C).iN β' (toks tl)) w' (.d (.lit u)) v:=h5;refine⟨?_,h6⟩;show AV.ok β2 (C.iN β2 (C.s++toks tl)) w' (.d (.lit u)) v;simp only[AV.ok,D.ok]at h5⊢;exact h5
     refine hbare _ _ _ k9 fun x hx=>?_
     simp only[je,a_,eM]at hx;obtain⟨c,⟨q,hq,hc⟩,rfl⟩:=hx;have:=hcl _ h1 q hq c hc;cases c with
     |lit u=>exact .inr ⟨u,rfl⟩
     |sl e nl xs=>exact .inl ⟨_,rfl⟩
     |any=>cases this
     |agg _=>cases this
 ·rcases hblk i b h1 with⟨i1,i2⟩|⟨i1,i2,i3⟩<;>rcases hblk j b h2 with⟨j1,j2⟩|⟨j1,j2,j3⟩
  ·exact hinv.inj i j b i2 j2
  ·have:=hinv.tN i2;omega
  ·have:=hinv.tN j2;omega
  ·exact hi.inj i j b i2 j2
 ·refine Ny (fun id=>?_) hy hx;by_cases hm:id∈C.s.map (·.1)
  ·exact .inr (hno' id hm)
  ·exact .inl (b2 id hm).1
mutual
def ox:AV->List (Nat×Nat×List D)
 |.own e id ds=>[(id,e,ds)]
 |.agg cs=>xz cs
 |.kZ cs=>xz cs
 |_=>[]
def xz:List AV->List (Nat×Nat×List D)
 |[]=>[]
 |x::xs=>ox x++xz xs
end
mutual
def H7:AV->AV
 |.own e id ds=>.kU e id ds.length
 |.agg cs=>.agg (Mc cs)
 |.kZ cs=>.kZ (Mc cs)
 |.d (.lit u)=>.d (.lit u)
 |_=>.iO
def Mc:List AV->List AV
 |[]=>[]
 |x::xs=>H7 x::Mc xs
end
mutual
theorem Lm{β:i_}{O:Own}{w:World}:∀{x:AV}{v:Value},AV.ok β O w x v->∀p∈ox x,∃u,AV.ok β O w (.own p.2.1 p.1 p.2.2) u
 |.own e id ds,v,h,p,hp=>by
  simp only[ox,aR]at hp;subst hp;exact⟨v,h⟩
 |.agg cs,v,h,p,hp=>by
  simp only[AV.ok]at h;obtain⟨vs,rfl,_,h⟩:=h;exact EU h p (by simpa[ox]using hp)
 |.kZ cs,v,h,p,hp=>by
  simp only[AV.ok]at h;obtain⟨vs,rfl,h⟩:=h;exact EU h p (by simpa[ox]using hp)
 |.iO,_,_,p,hp=>by simp[ox]at hp
 |.d _,_,_,p,hp=>by simp[ox]at hp
 |.ptr _ _,_,_,p,hp=>by simp[ox]at hp
 |.su _ _ _ _,_,_,p,hp=>by simp[ox]at hp
 |.pv _,_,_,p,hp=>by simp[ox]at hp
 |.fn _ _ _,_,_,p,hp=>by simp[ox]at hp
 |.kU _ _ _,_,_,p,hp=>by simp[ox]at hp
 |.mC _ _ _,_,_,p,hp=>by simp[ox]at hp
 |.Ey _ _,_,_,p,hp=>by simp[ox]at hp
 |.dp _,_,_,p,hp=>by simp[ox]at hp
theorem EU{β:i_}{O:Own}{w:World}:∀{xs:List AV}{vs:List Value},AV.jk β O w xs vs->∀p∈xz xs,∃u,AV.ok β O w (.own p.2.1 p.1 p.2.2) u
 |[],_,_,p,hp=>by simp[xz]at hp
 |x::xs,vs,h,p,hp=>by
  simp only[AV.jk]at h;obtain⟨v,r,rfl,h1,h2⟩:=h;simp only[xz,aG]at hp;rcases hp with hp|hp
  ·exact Lm h1 p hp
  ·exact EU h2 p hp
end
mutual
theorem SI{β β':i_}{O O':Own}{w:World}{tl:List (Nat×Nat×List D)}(hb:∀e id ds v,(id,e,ds)∈tl->AV.ok β O w (.own e id ds) v->AV.ok β' O' w (.kU e id ds.length) v):
 ∀{x:AV}{v:Value},(∀p∈ox x,p∈tl)->AV.ok β O w x v->AV.ok β' O' w (H7 x) v
 |.own e id ds,v,hp,h=>hb e id ds v (hp _ (by simp[ox])) h
 |.agg cs,v,hp,h=>by
  simp only[H7,AV.ok]at h⊢;obtain⟨vs,rfl,h1,h⟩:=h;exact⟨vs,rfl,h1,IW hb (by simpa[ox]using hp) h⟩
 |.kZ cs,v,hp,h=>by
  simp only[H7,AV.ok]at h⊢;obtain⟨vs,rfl,h⟩:=h;exact⟨vs,rfl,IW hb (by simpa[ox]using hp) h⟩
 |.d (.lit u),v,_,h=>by simp only[H7,AV.ok,D.ok]at h⊢;exact h
 |.d .any,_,_,_=>by simp[H7,AV.ok]
 |.d (.agg _),_,_,_=>by simp[H7,AV.ok]
 |.d (.sl _ _ _),_,_,_=>by simp[H7,AV.ok]
 |.iO,_,_,_=>by simp[H7,AV.ok]
 |.ptr _ _,_,_,_=>by simp[H7,AV.ok]
 |.su _ _ _ _,_,_,_=>by simp[H7,AV.ok]
 |.pv _,_,_,_=>by simp[H7,AV.ok]
 |.fn _ _ _,_,_,_=>by simp[H7,AV.ok]
 |.kU _ _ _,_,_,_=>by simp[H7,AV.ok]
 |.mC _ _ _,_,_,_=>by simp[H7,AV.ok]
 |.Ey _ _,_,_,_=>by simp[H7,AV.ok]
 |.dp _,_,_,_=>by simp[H7,AV.ok]
theorem IW{β β':i_}{O O':Own}{w:World}{tl:List (Nat×Nat×List D)}(hb:∀e id ds v,(id,e,ds)∈tl->AV.ok β O w (.own e id ds) v->AV.ok β' O' w (.kU e id ds.length) v):
 ∀{xs:List AV}{vs:List Value},(∀p∈xz xs,p∈tl)->AV.jk β O w xs vs->AV.jk β' O' w (Mc xs) vs
 |[],_,_,h=>by simpa[Mc,AV.jk]using h
 |x::xs,vs,hp,h=>by
  simp only[Mc,AV.jk]at h⊢;obtain⟨v,r,rfl,h1,h2⟩:=h;exact⟨v,r,rfl,SI hb (fun p hq=>hp p (by simp[xz,hq])) h1,IW hb (fun p hq=>hp p (by simp[xz,hq])) h2⟩
end
theorem Whole.len{C:Ctx}{β:i_}{s:iM}{w:World}(h:Inv C β s w){id e:Nat}{ds:List D}(hw:Whole s id e ds):∃u,(β id).at u ds.length/\∀v m,(β id).at v m->v=u/\m=ds.length:=by
 have ho:=h.obs id;rcases hw with⟨t,rfl,h1,_⟩|⟨t,h1,_,_⟩
 ·rw[h1]at ho;obtain⟨u,hb,_⟩:=ho;rw[hb];exact⟨u,⟨rfl,rfl⟩,fun v m hv=>⟨hv.1.symm,hv.2.symm⟩⟩
 ·rw[h1]at ho;obtain⟨u,bs,hb,_⟩:=ho;rw[hb];exact⟨u,⟨rfl,rfl⟩,fun v m hv=>⟨hv.1.symm,hv.2.symm⟩⟩
theorem Whole.cond{s:iM}{id e:Nat}{ds:List D}(hw:Whole s id e ds):(∀x∈ds,(iI x).length=e)/\∀x∈ds,∀c∈iI x,vz c=true:=by
 rcases hw with⟨t,rfl,h1,h2⟩|⟨t,h1,h2,h3⟩
 ·refine⟨fun x hx=>?_,fun x hx c hc=>?_⟩
  ·have:=h2 x hx;cases x with
   |lit u=>rfl
   |_=>cases this
  ·have:=h2 x hx;cases x with
   |lit u=>simp only[iI,aR]at hc;subst hc;rfl
   |_=>cases this
 ·exact⟨h2,h3⟩
theorem Fb:∀{tl:List (Nat×Nat×List D)}{id e:Nat}{ds:List D},(id,e,ds)∈tl->sat (toks tl) id≠ .dead
 |[],_,_,_,h=>by simp at h
 |(i,e',ds')::r,id,e,ds,hm=>by
  simp only[toks,aK,sat];by_cases hq:id=i
  ·rw[ah hq];exact fun h=>nomatch h
  ·rw[aj hq];refine Fb (tl:=r) (e:=e) (ds:=ds) ?_;rcases bA.1 hm with h|h
   ·simp only[dY]at h;exact absurd h.1 hq
   ·exact h
theorem iR.kT{P:Program}{f:Nat}{args:List AV}{y:AV}{t:iM}(hc:iR P f args [] 0 fun x s'=>x=y/\s'=t)
 (hw:∀p∈ox y,Whole t p.1 p.2.1 p.2.2) {y':AV} {t':iM} (hy:H7 y=y') (ht:toks (ox y)=t'):
 iR P f args [] 0 fun x s'=>x=y'/\s'=t':=fun C vs hs hk hinv hargs=>by
 subst hy;subst ht;refine(hc C vs hs hk hinv hargs).mono ?_;rintro e w' ⟨v,x,β',s',rfl,hi,hx,rfl,rfl⟩;have hno:∀i b,¬iG C.β C.s i b:=fun i b h=>by unfold iG at h;rw[hs]at h;exact h
 have hsat:=fun id e ds=>Fb (tl:=ox x) (id:=id) (e:=e) (ds:=ds)
 obtain⟨β2,hβ2⟩:=Classical.axiomOfChoice (r:=fun(id:Nat)(pl:Place)=>(sat (toks (ox x)) id=.dead/\pl=.no)\/∃e ds u B',(id,e,ds)∈ox x/\sat (toks (ox x)) id=.kT e ds.length (je ds)/\
  pl=.lI u ds.length B'/\(β' id).at u ds.length/\(∀q:Nat,((∃cap,u=.slice (some ⟨q,0,none⟩) ds.length cap/\0<cap)\/q∈B')->iG β' s' id q)/\
  (∀b∈B',∃vs t',w'.heap[b]?=some (.cells vs t' (0,0)))/\(∀β F,Dg β F w' e ds.length u B' (je ds))/\
  ((∃a,u=.slice a 0 0/\ds.length=0)\/∃b cap,u=.slice (some ⟨b,0,none⟩) ds.length cap/\ds.length<=cap/\cap<2^63)) (fun id=>by
  rcases DV (tl:=ox x) (id:=id)with h|⟨e,ds,h1,h2⟩
  ·exact⟨.no,.inl ⟨h,rfl⟩⟩
  ·obtain⟨u,hu⟩:=Lm hx _ h1;have hW:=hw _ h1;obtain⟨B,g1,g2,g3⟩:=hW.nv hi u hu;obtain⟨B',k1,⟨k2,k3⟩,k4⟩:=Qt g3 g1 (fun b hb=>(g2 b hb).2) hW.cond.1 hW.cond.2;obtain⟨u',l1,l2⟩:=hW.len hi;have huu:u=u':=by
    simp only[AV.ok]at hu;obtain⟨_,p,n,m1,m2,m3⟩:=hu;obtain⟨rfl,rfl⟩:=l2 _ _ m1;exact m3 rfl
   subst huu;exact⟨_,.inr ⟨e,ds,u,B',h1,h2,rfl,l1,fun q hq=>(g2 q (k1 q hq)).1,k2,k3,k4⟩⟩)
 have hblk:∀id b,iG β2 (toks (ox x)) id b->iG β' s' id b:=fun id b hb=>by
  rcases hβ2 id with⟨h1,_⟩|⟨e,ds,u,B',h1,h2,h3,h4,h5,_⟩
  ·unfold iG at hb;rw[h1]at hb;exact hb.elim
  ·unfold iG at hb;rw[h2]at hb;obtain⟨v',bs,e1,e2⟩:=hb;rw[h3]at e1;cases e1;exact h5 b e2
 have hown:∀b o,own β2 (toks (ox x)) b o->∃id,iG β' s' id b:=fun b o ho=>let⟨id,h⟩:=ho.block;⟨id,hblk id b h⟩
 refine⟨v,H7 x,β2,_,rfl,⟨hi.size,hi.io,hi.keep,hi.pU,fun b o ho=>?_,fun id b hb=>hi.sM id b (hblk id b hb),fun id hid=>?_,hi.low,fun id=>?_,fun i j b h1 h2=>hi.inj i j b (hblk i b h1) (hblk j b h2)⟩,
  SI (tl:=ox x) (fun e id ds v hm hv=>?_) (fun p hp=>hp) hx,rfl,rfl⟩
 ·obtain⟨id,h⟩:=hown b o ho;rcases hi.sM id b h with⟨i,h2⟩|h2
  ·exact absurd h2 (hno i b)
  ·exact .inr h2
 ·omega
 ·rcases hβ2 id with⟨h1,h2⟩|⟨e,ds,u,B',h1,h2,h3,h4,h5,h6,h7,_⟩
  ·rw[h1];exact h2
  ·rw[h2];exact⟨u,B',h3,h6,h7 _ _⟩
 ·rcases hβ2 id with⟨h1,_⟩|⟨e2,ds2,u,B',h1,h2,h3,h4,h5,h6,h7,h8⟩
  ·exact absurd h1 (hsat id e ds hm)
  ·have hW:=hw _ hm;obtain⟨u',l1,l2⟩:=hW.len hi;obtain⟨rfl,hlen⟩:=l2 _ _ h4;simp only[AV.ok]at hv⊢;obtain⟨_,p,n,m1,m2,m3⟩:=hv;obtain⟨rfl,rfl⟩:=l2 _ _ m1;obtain rfl:=m3 rfl;exact⟨v,ds2.length,by rw[h3];exact⟨rfl,rfl⟩,iA,fun _=>rfl,by rw[<-hlen];exact h8⟩
class JK {α:Type} (f:α->D):Prop where
 lit:∀x,ME (f x)=true
class Cl {α:Type} (f:α->D):Prop where
 cl:∀x,∀c∈iI (f x),vz c=true
instance:JK iD:=⟨fun _=>rfl⟩
instance:JK bD:=⟨fun _=>rfl⟩
instance:JK sD:=⟨fun _=>rfl⟩
instance{k:IntKind}:JK (kD k):=⟨fun _=>rfl⟩
instance:Cl iD:=⟨fun _ c h=>by simp only[iD,iI,aR]at h;subst h;rfl⟩
instance:Cl bD:=⟨fun _ c h=>by simp only[bD,iI,aR]at h;subst h;rfl⟩
instance:Cl sD:=⟨fun _ c h=>by simp only[sD,iI,aR]at h;subst h;rfl⟩
instance{k:IntKind}:Cl (kD k):=⟨fun _ c h=>by simp only[kD,iI,aR]at h;subst h;rfl⟩
instance{α:Type}{e:Nat}{f:α->D}:Cl (iH e f):=⟨fun _ c h=>by simp only[iH,iI,aR]at h;subst h;rfl⟩
theorem Cl.agg{α:Type}{f:α->D}(g:α->List D)(hf:∀x,f x=.agg (g x))(h:∀x,(g x).all vz=true):Cl f:=⟨fun x c hc=>by
 rw[hf]at hc;exact cM.1 (h x) c hc⟩
section
variable{α:Type}{f:α->D}{e n id:Nat}{s:iM}{xs ys:List α}
theorem uq[sW f e][Cl f]:(∀x∈xs.map f,(iI x).length=e)/\∀x∈xs.map f,∀c∈iI x,vz c=true:=
 ⟨fun x hx=>by obtain⟨y,_,rfl⟩:=a_.1 hx;exact sW.len y,fun x hx=>by obtain⟨y,_,rfl⟩:=a_.1 hx;exact Cl.cl y⟩
theorem yc.of[sW f e][Cl f](h:sat s id=.kT e n (je (xs.map f)))(hn:n=xs.length):yc s id e (xs.map f):=
 ⟨by rw[h,hn,aJ],uq.1,uq.2⟩
theorem Whole.flat{t:Nat}[JK f](h:sat s id=.tok t 1 n)(hn:n=xs.length):Whole s id 1 (xs.map f):=
 .inl ⟨t,rfl,by rw[h,hn,aJ],fun x hx=>by obtain⟨y,_,rfl⟩:=a_.1 hx;exact JK.lit y⟩
theorem Whole.deep{t:Nat}[sW f e][Cl f](h:sat s id=.lI t e n (je (xs.map f)))(hn:n=xs.length):Whole s id e (xs.map f):=
 .inr ⟨t,by rw[h,hn,aJ],uq.1,uq.2⟩
theorem A_.tok[sW f e][Cl f](h:sat s id=.kT e n (je (xs.map f)))(hn:n=xs.length):A_ s (.kU e id n) (iH e f xs):=
 .kU (yc.of h hn) (by rw[hn,aJ])
theorem Cd(f:α->D)(xs:List α):je (xs.map f)=(lF f xs).map xg:=rfl
theorem D3[sW f e]:(je (xs.map f)).length=xs.length*e:=by rw[Cd,aJ,FJ]
theorem I9{i e k m:Nat}(hi:i<m)(hk:k<e):i*e+k<m*e:=
 ct (Nat.add_lt_add_left hk _) (by rw[<-gb];exact cZ _ hi)
variable[Inhabited α]{i k:Nat}
theorem XG[sW f e](hi:i<xs.length)(hk:k<e):(je (xs.map f))[i*e+k]?=some (xg ((iI (f (xs.getD i default))).getD k .any)):=by
 have h1:=N6 (f:=f) (e:=e) (d:=.any) hi hk;have hlt:i*e+k<(lF f xs).length:=by rw[FJ];exact I9 hi hk
 rw[Cd,bt,az hlt,<-h1,List.getD_eq_getElem?_getD,az hlt];rfl
theorem QH[sW f e]{d:D}{y:α}(hi:i<xs.length)(hk:k<e)(h:(iI (f (xs.getD i default))).set k d=iI (f y)):
 (je (xs.map f)).set (i*e+k) (xg d)=je ((xs.set i y).map f):=by
 rw[Cd,Cd,<-fC];congr 1;have h1:=EA sW.len xs i 0 hi (cS e) (f:=f);have h2:=B8 sW.len xs i e hi (aC e) (f:=f);have hy:=sW.len (f:=f) (e:=e) y;have hx:=sW.len (f:=f) (e:=e) (xs.getD i default);have hsplit:lF f xs=lF f (xs.take i)++(iI (f (xs.getD i default))++lF f (xs.drop (i+1))):=by
  conv=>lhs;rw[<-bL i xs]
  rw[vB,ay hi,nE,List.getD_eq_getElem?_getD,az hi];rfl
 have hl:(lF f (xs.take i)).length=i*e:=by rw[FJ,bF,gB iA]
 rw[hsplit,fE,aj iA,hl,cF,fE,ah iA,h,cz,ah hi,vB,nE]
end
theorem T7{α:Type}{l:List α}{j:Nat}{x:α}(h:j<l.length):l.take j++[x]++l.drop (j+1)=l.set j x:=by rw[cz,ah h,aF];rfl
theorem iW.KV{k:Nat}{env:List AV}{s:iM}(id:Nat){e n:Nat}{cs:List AV}(cs':List AV)(hs:sat s id=.kT e n cs)(h:cs=cs'):iW k env s env (sset s id (.kT e n cs')):=fun C β a w hC hst=>by
 subst h;have:(sat (sset s id (.kT e n cs)))=sat s:=by funext i;rw[jA];split<;>simp_all
 exact⟨β,hst.defers,(hst.inv.told fun i=>by rw[this];exact vl.refl _).1,hst.len,fun i x hx=>by
  rw[(hst.inv.told (s':=sset s id (.kT e n cs)) fun i=>by rw[this];exact vl.refl _).2];exact hst.env i x hx⟩
theorem iW.adg{k:Nat}{env:List AV}{s:iM}(id:Nat){e n:Nat}{cs:List AV}(cs':List AV)(hs:sat s id=.kT e n cs)(h:wA cs cs'):iW k env s env (sset s id (.kT e n cs')):=fun C β a w hC hst=>by
 have hq:∀i,vl (sat s i) (sat (sset s id (.kT e n cs')) i):=fun i=>by
  rw[jA];by_cases hi:i=id
  ·subst hi;rw[ah rfl,hs];exact⟨rfl,rfl,h⟩
  ·rw[aj hi];exact vl.refl _
 obtain⟨h1,h2⟩:=hst.inv.told hq;exact⟨β,hst.defers,h1,hst.len,fun i x hx=>by rw[h2];exact hst.env i x hx⟩
theorem iW.adb{k:Nat}{env:List AV}{s:iM}(id:Nat){t e n:Nat}{cs:List AV}(cs':List AV)(hs:sat s id=.lI t e n cs)(h:cs=cs'):iW k env s env (sset s id (.lI t e n cs')):=fun C β a w hC hst=>by
 subst h;have:(sat (sset s id (.lI t e n cs)))=sat s:=by funext i;rw[jA];split<;>simp_all
 exact⟨β,hst.defers,(hst.inv.told fun i=>by rw[this];exact vl.refl _).1,hst.len,fun i x hx=>by
  rw[(hst.inv.told (s':=sset s id (.lI t e n cs)) fun i=>by rw[this];exact vl.refl _).2];exact hst.env i x hx⟩
theorem iV.Ji{k:Nat}{x y:AV}{s t:iM}(h:iW k [x] s [y] t):iV k x s y t:=fun C β w v hC hi hx=>by
 obtain⟨β',h1⟩:=h C β {tmps:=#[v],defers:=[]} w hC ⟨.nil,hi,rfl,fun i z hz=>by
  cases i with
  |zero=>simp at hz;subst hz;simpa using hx
  |succ i=>simp at hz⟩
 exact⟨β',h1.inv,by simpa using h1.env 0 y rfl⟩
theorem wA.append{xs ys us vs:List AV}(h1:wA xs ys)(h2:wA us vs):wA (xs++us) (ys++vs):=by
 induction xs generalizing ys with
 |nil=>cases ys with
  |nil=>exact h2
  |cons _ _=>exact h1.elim
 |cons x xs ih=>cases ys with
  |nil=>exact h1.elim
  |cons y ys=>exact⟨h1.1,ih h1.2⟩
theorem wA.rep{z:List AV}{d:D}(h:wA z ((iI d).map xg)):∀n:Nat,wA ((List.replicate n z).flatten) (je (List.replicate n d))
 |0=>trivial
 |n+1=>by rw[cE,cE,cg,A0];exact h.append (wA.rep h n)
theorem Z3.ae5{e0 e:Nat}:Z3 (.d (.sl e0 (some true) [])) (.dp (.sl e none [])):=.inr (.inr ⟨e0,e,rfl,rfl⟩)
attribute [go_sem] uo Cc
attribute [go_sem] jg
def eD{α:Type}(f:α->D)(M:List (Lit×α)):List (Lit×D):=M.map fun p=>(p.1,f p.2)
section
variable{α:Type}{f:α->D}{M:List (Lit×α)}{kl:Lit}{x:α}
theorem aar:eD f []=[]:=rfl
theorem V7:eD f ((kl,x)::M)=(kl,f x)::eD f M:=rfl
end
theorem Ms{v:Value}:Mr (.lit v)=false:=rfl
theorem P1{e:Nat}{nl:Option Bool}{xs:List D}:Mr (.sl e nl xs)=false:=rfl
theorem Mt{α:Type}{e:Nat}{f:α->D}{xs:List α}:Mr (iH e f xs)=false:=rfl
attribute [go_sem] aar V7 Ms P1 Mt
def pvR(id:Nat)(ds:List D):AV->AV
 |.ptr j off=>if j=id then .pv (ds.drop off)else .ptr j off
 |x=>x
def ady:AV->Bool
 |.ptr _ _=>true
 |.pv _=>true
 |.d _=>true
 |_=>false
def S8:AV->Bool
 |.d _=>true
 |_=>false
def SJ:Ob->Bool
 |.obj _ cs=>cs.all S8
 |.dead=>true
 |_=>false
theorem IA{ρ:Nat->Option Nat}:∀{cs:List AV},cs.all S8=true->AV.ji ρ cs=cs
 |[],_=>rfl
 |x::xs,h=>by
  rw[eR,bh]at h;have ih:=IA (ρ:=ρ) h.2;cases x with
  |d y=>simp only[AV.ji,AV.jY,ih]
  |_=>exact absurd h.1 (by simp[S8])
theorem SK{rest:iM}(hr:rest.all (fun p=>SJ p.2)=true)(j:Nat):SJ (sat rest j)=true:=by
 induction rest with
 |nil=>rfl
 |cons p r ih=>
  rw[eR,bh]at hr;simp only[sat];split
  ·exact hr.1
  ·exact ih hr.2
theorem P8{id:Nat}{o:Ob}(h:SJ o=true):o.kill id=o:=by
 cases o<;>simp[SJ]at h
 ·rfl
 ·rename_i t cs;simp only[Ob.kill];rw[IA (by rw[cM];exact h)]
theorem iR.pvs{P:Program}{f:Nat}{args:List AV}{g id t:Nat}{caps:List AV}{ds:List D}{rest:iM}(h:iR P f args [] 0 fun x s'=>x=.fn g [] caps/\s'=(id,.obj t (ds.map .d))::rest)
 (hc:caps.all ady=true) (hr:rest.all (fun p=>SJ p.2)=true) (hd:sat rest id=.dead):iR P f args [] 0 fun x s'=>x=.fn g [] (caps.map (pvR id ds))/\s'=rest:=fun C vs hs hk hinv hargs=>by
 refine(h C vs hs hk hinv hargs).mono fun e w' ⟨v,x,β',s',he,hi,hx,hxe,hse⟩=>?_
 subst hxe hse;have ho:=hi.obs id;simp only[sat,aA]at ho;obtain⟨b,us,hb,hh,hone,pre,rst,hus,hpre⟩:=ho;have hob:=SK hr;have hsat:∀j,sat (jz id ((id,Ob.obj t (ds.map .d))::rest)) j=sat rest j:=fun j=>by
  rw[qc];by_cases hj:j=id
  ·subst hj;simp[hd]
  ·simp only[hj,aE,sat];exact P8 (hob j)
 obtain⟨h2,hf⟩:=(hi.kill id (by rw[hk];exact cS _)).told (s':=rest) fun j=>by rw[hsat j];exact vl.refl _
 have hsub:∀b o,C.iN (iS β' id .no) rest b o->C.iN β' ((id,Ob.obj t (ds.map .d))::rest) b o:=fun b o ho=>by
  rw[hf]at ho;exact ho.imp (fun h=>h) wM
 have hblk:iG β' ((id,Ob.obj t (ds.map .d))::rest) id b:=by simp only[iG,sat,aA];exact hb
 have hnot:∀o,¬C.iN (iS β' id .no) rest b o:=fun o ho=>by
  rcases ho with ho|ho
  ·have h1:=hi.low b o ho;have hown:own β' ((id,.obj t (ds.map .d))::rest) b o:=⟨id,by simp only[sat,aA];exact hb⟩;rcases hi.qz b o hown with h3|h3
   ·exact h1.2 h3
   ·omega
  ·obtain⟨j,hj⟩:=ho.block;have hj1:iG β' ((id,Ob.obj t (ds.map .d))::rest) j b/\j≠id:=by
    have hji:j≠id:=fun e=>by subst e;unfold iG at hj;rw[hd]at hj;exact hj
    refine⟨?_,hji⟩;have:=wD (β:=β') (s:=(id,Ob.obj t (ds.map .d))::rest) (id:=id) (i:=j) (b:=b) (by
     unfold iG at hj⊢;rw[hsat];exact hj)
    exact this
   exact hj1.2 (hi.inj j id b hj1.1 hblk)
 simp only[AV.ok,AV.jk]at hx;obtain⟨fs,cs,rfl,hfs,hcs⟩:=hx;refine⟨_,_,_,_,he,h2,?_,rfl,rfl⟩;simp only[AV.ok,AV.jk];refine⟨fs,cs,rfl,hfs,?_⟩;have dm:∀{x:D}{u:Value},D.ok (C.iN β' ((id,Ob.obj t (ds.map .d))::rest)) w' x u->D.ok (C.iN (iS β' id .no) rest) w' x u:=fun{x u} hx=>D.kA (fun b o v hc hn'=>⟨hc,fun h=>hn' (hsub b o h)⟩) _ _ hx
 have key:∀(caps:List AV)(us':List Value),caps.all ady=true->AV.jk β' (C.iN β' ((id,Ob.obj t (ds.map .d))::rest)) w' caps us'->AV.jk (iS β' id .no) (C.iN (iS β' id .no) rest) w' (caps.map (pvR id ds)) us':=by
  intro caps;induction caps with
  |nil=>intro us' _ h;simpa[AV.jk]using h
  |cons x xs ih=>
   intro us' hc h;simp only[eR,bh]at hc;simp only[aK,AV.jk]at h⊢;obtain⟨u,r,rfl,h3,h4⟩:=h;refine⟨u,r,rfl,?_,ih r hc.2 h4⟩;cases x<;>simp[ady]at hc
   ·rename_i d;simp only[pvR,AV.ok]at h3⊢;exact dm h3
   ·rename_i j off;simp only[pvR];simp only[AV.ok]at h3;obtain⟨b2,hb2,rfl⟩:=h3;by_cases hj:j=id
    ·subst hj;rw[hb]at hb2;cases hb2;simp only[aA,AV.ok];have hl:=AV.jy hpre;have hp2:=(AV.j_.1 hpre).2;refine⟨b,off,pre.drop off,rfl,fun q u hq=>?_,?_⟩
     ·rw[cK]at hq;have hq2:us.toList[off+q]?=some u:=by rw[hus,aV (aO.1 hq).1];exact hq
      refine⟨?_,hnot _,hone u (bW hq2)⟩;simp only[World.cell?,hh,cA,aq,aE];simpa using hq2
     ·refine D.j_.2 ⟨by simp at hl;simp[hl],fun q x u hx hu=>?_⟩;rw[cK]at hx hu;have hu2:us.toList[off+q]?=some u:=by rw[hus,aV (aO.1 hu).1];exact hu
      refine⟨hone u (bW hu2),?_⟩;have:=hp2 (off+q) (.d x) u (by rw[bt,hx];rfl) hu;simp only[AV.ok]at this;exact dm this
    ·simp only[hj,aE,AV.ok];exact⟨b2,by simpa[iS,hj]using hb2,rfl⟩
   ·rename_i cs2;simp only[pvR];simp only[AV.ok]at h3⊢;obtain⟨b2,o2,vs2,rfl,k1,k2⟩:=h3;exact⟨b2,o2,vs2,rfl,k1.mono (fun b o v hc hn'=>⟨hc,fun h=>hn' (hsub b o h)⟩),D.jU (fun b o v hc hn'=>⟨hc,fun h=>hn' (hsub b o h)⟩) _ _ k2⟩
 exact key caps cs.toList hc hcs
section
variable{P:Program}{k:Nat}{Q:Post}{env:List AV}{s:iM}
theorem aaG{α σ β:Type}[Inhabited α]{f:Nat×σ->Option ((Nat×σ)⊕β)}{s0:σ}{b:β}(hb:iL f (0,s0)=some b){g:Operand}{p1 p2:Nat}{x y:iJ}{gf:Nat}{caps:List AV}{e1 e2:α->D}{xs:List α}
 (it:Iter P gf caps (xs.map fun x=>[e1 x,e2 x])) (K:Nat) (S:σ->iM) (hw:iW k env s env (S s0))
 (round:∀j p t,j<xs.length->f (j,p)=some t->(∀b',t=.inr b'->b'=b)->
  uy P K x (AB (uy P K y (HS K env S (fun p'=>t=.inl (j+1,p')) Q)) fun _ _ _=>False) (qG env [(p1,.d (e1 (xs.getD j default))),(p2,.d (e2 (xs.getD j default)))]) (S p))
 (done:∀p t,f (xs.length,p)=some t->(∀b',t=.inr b'->b'=b)->Q .normal env (S p))
 (hg:ev env g=.fn gf [] caps:=by rfl) (hK:k<=K:=by omega) (hfix:AV.ji (yZ K) env=env:=by rfl) (hflat:(x.flat&&y.flat)=true:=by rfl):oR P k (.HR g [p1,p2] x y) Q env s:=by
 rw[bh]at hflat;have hget:∀i,i<xs.length->(xs.map fun x=>[e1 x,e2 x]).getD i []=[e1 (xs.getD i default),e2 (xs.getD i default)]:=fun i hi=>by simp[List.getD_eq_getElem?_getD,bt,az hi]
 refine MK hb K hK hfix hflat hg it (fun i hi=>?_) S hw (fun j p t hj ht hbt=>?_) (fun p t ht hbt=>done p t (by rwa [aJ]at ht) hbt)
 ·rw[aJ]at hi;rw[hget i hi];rfl
 ·rw[aJ]at hj;rw[hget j hj];refine(iB (round j p t hj ht hbt)).mono fun e env' s' hq=>?_
  cases e with
  |normal=>exact iB hq
  |_=>exact hq
theorem aaF{α σ β:Type}[Inhabited α]{f:Nat×σ->Option ((Nat×σ)⊕β)}{s0:σ}{b:β}(hb:iL f (0,s0)=some b){g:Operand}{p1:Nat}{x y:iJ}{gf:Nat}{caps:List AV}{e1:α->D}{xs:List α}
 (it:Iter P gf caps (xs.map fun x=>[e1 x])) (K:Nat) (S:σ->iM) (hw:iW k env s env (S s0))
 (round:∀j p t,j<xs.length->f (j,p)=some t->(∀b',t=.inr b'->b'=b)->
  uy P K x (AB (uy P K y (HS K env S (fun p'=>t=.inl (j+1,p')) Q)) fun _ _ _=>False) (qG env [(p1,.d (e1 (xs.getD j default)))]) (S p))
 (done:∀p t,f (xs.length,p)=some t->(∀b',t=.inr b'->b'=b)->Q .normal env (S p))
 (hg:ev env g=.fn gf [] caps:=by rfl) (hK:k<=K:=by omega) (hfix:AV.ji (yZ K) env=env:=by rfl) (hflat:(x.flat&&y.flat)=true:=by rfl):oR P k (.HR g [p1] x y) Q env s:=by
 rw[bh]at hflat;have hget:∀i,i<xs.length->(xs.map fun x=>[e1 x]).getD i []=[e1 (xs.getD i default)]:=fun i hi=>by simp[List.getD_eq_getElem?_getD,bt,az hi]
 refine MK hb K hK hfix hflat hg it (fun i hi=>?_) S hw (fun j p t hj ht hbt=>?_) (fun p t ht hbt=>done p t (by rwa [aJ]at ht) hbt)
 ·rw[aJ]at hi;rw[hget i hi];rfl
 ·rw[aJ]at hj;rw[hget j hj];refine(iB (round j p t hj ht hbt)).mono fun e env' s' hq=>?_
  cases e with
  |normal=>exact iB hq
  |_=>exact hq
end
theorem mf{P:Program}{f:Nat}{mc:iJ}{n:Nat}{rs:List vK}{fn:Func}(h1:P.funcs[f]?=some fn)(h3:fn.ntmps=n)(h2:fn.body.bind (oA P)=some mc.erase:=by kernel_rfl)
 (h4:fn.results.toList.mapM (AU P)=some rs:=by kernel_rfl):jV P f mc n rs:=⟨fn,h1,h2,h3,h4⟩
section
variable{α γ:Type}{P:Program}{k0 f:Nat}{args env:List AV}{s:iM}{d:Option Nat}{R:List AV->iM->Prop}{x:Option α}{β:Type}{K:α->Option β}{r:β}{q:α->Prop}
end
theorem iW.Vk{k:Nat}{env:List AV}{s:iM}(id id' q:Nat){pre0 L:List AV}{t e n e':Nat}{xs':List D}(hs:sat s id=.lI t e n (pre0++L))(hq:L[q]?=some (.own e' id' xs'))
 (hk:k<=id') (hne:id≠id') (hw:Whole s id' e' xs'):
 iW k env s (AV.ji (iQ id') env) (sset (jz id' s) id (.lI t e n (AV.ji (iQ id') pre0++(AV.ji (iQ id') L).set q (.dp (.sl e' none xs'))))):=by
 obtain⟨h1,h2,h3⟩:=EP (y:=AV.dp (.sl e' none xs')) hq;have h4:(AV.ji (iQ id') L).set q (.dp (.sl e' none xs'))=AV.ji (iQ id') (L.take q)++ .dp (.sl e' none xs')::AV.ji (iQ id') (L.drop (q+1)):=by
  have e1:=bP (AV.ji (iQ id')) h2;rw[Cc,uo]at e1;simpa[AV.ji,AV.jY]using e1
 have:=iW.LF (env:=env) id id' (pre0++L.take q) (L.drop (q+1)) hs (by
  conv=>lhs;rw[h1]
  rw[aF]) hk hne hw
 rw[uo,aF,<-h4]at this;exact this
theorem iW.xF{k:Nat}{env:List AV}{s:iM}(id id' q:Nat){L:List AV}{t e n e':Nat}{xs':List D}(hs:sat s id=.lI t e n L)(hq:L[q]?=some (.own e' id' xs'))
 (hk:k<=id') (hne:id≠id') (hw:Whole s id' e' xs'):
 iW k env s (AV.ji (iQ id') env) (sset (jz id' s) id (.lI t e n ((AV.ji (iQ id') L).set q (.dp (.sl e' none xs'))))):=
 iW.Vk (pre0:=[]) id id' q hs hq hk hne hw
attribute [go_sem] List.set_cons_zero List.set_cons_succ
def TW(nid:Nat)(x y:AV):Prop:=∀(β:i_)(O:Own)(w:World)(v:Value),(β nid).at (.slice none 0 0) 0->AV.ok β O w x v->AV.ok β O w y v
def Bc(nid:Nat)(xs ys:List AV):Prop:=∀(β:i_)(O:Own)(w:World)(vs:List Value),(β nid).at (.slice none 0 0) 0->AV.jk β O w xs vs->AV.jk β O w ys vs
theorem TW.refl{nid:Nat}{x:AV}:TW nid x x:=fun _ _ _ _ _ h=>h
theorem Bc.nil{nid:Nat}:Bc nid [] []:=fun _ _ _ _ _ h=>h
theorem Bc.cons{nid:Nat}{x y:AV}{xs ys:List AV}(h:TW nid x y)(hs:Bc nid xs ys):Bc nid (x::xs) (y::ys):=fun β O w vs hb hv=>by
 simp only[AV.jk]at hv⊢;obtain⟨v,r,h1,h2,h3⟩:=hv;exact⟨v,r,h1,h β O w v hb h2,hs β O w r hb h3⟩
theorem TW.nil{nid e e0:Nat}:TW nid (.d (.sl e0 (some true) [])) (.own e nid []):=fun β O w v hb hv=>by
 simp only[AV.ok]at hv⊢;have:=CR hv;subst this;simp only[D.ok];exact⟨⟨none,0,rfl,⟨aC _,iA⟩,trivial,.inl trivial⟩,_,0,hb,aC _,fun _=>rfl⟩
theorem TW.kZ{nid:Nat}{xs ys:List AV}(h:Bc nid xs ys):TW nid (.kZ xs) (.kZ ys):=fun β O w v hb hv=>by
 simp only[AV.ok]at hv⊢;obtain⟨vs,h1,h2⟩:=hv;exact⟨vs,h1,h β O w _ hb h2⟩
theorem TW.agg{nid:Nat}{xs ys:List AV}(h:Bc nid xs ys):TW nid (.agg xs) (.agg ys):=fun β O w v hb hv=>by
 simp only[AV.ok]at hv⊢;obtain⟨vs,h1,h0,h2⟩:=hv;exact⟨vs,h1,h0,h β O w _ hb h2⟩
theorem TW.Co{nid:Nat}{ds:List D}{ys:List AV}(h:Bc nid (ds.map .d) ys):TW nid (.d (.agg ds)) (.agg ys):=fun β O w v hb hv=>by
 have hm:∀(ds:List D)(vs:List Value),D.jk O w ds vs->AV.jk β O w (ds.map .d) vs:=fun ds=>by
  induction ds with
  |nil=>intro vs h;simpa[D.jk,AV.jk]using h
  |cons d ds ih=>
   intro vs h;simp only[D.jk]at h;obtain⟨v,r,h1,_,h2,h3⟩:=h;simp only[aK,AV.jk];exact⟨v,r,h1,by simpa only[AV.ok]using h2,ih r h3⟩
 simp only[AV.ok,D.ok]at hv⊢;obtain⟨vs,h1,h2⟩:=hv;exact⟨vs,h1,Eo h2,h β O w _ hb (hm _ _ h2)⟩
theorem iV.Fe{k:Nat}{x:AV}{s:iM}(nid t e:Nat)(y:AV)(hd:sat s nid=.dead)(hxy:TW nid x y):iV k x s y (sset s nid (.tok t e 0)):=fun C β w v _ hi hx=>by
 obtain⟨h1,m⟩:=St.CY (env:=[]) (a:={tmps:=#[],defers:=[]}) (t:=t) (e:=e) ⟨.nil,hi,rfl,fun i x hx=>by simp at hx⟩ hd;exact⟨_,h1.inv,hxy _ _ _ _ (by simp[iS,Place.at,uY]) (m.ok hx)⟩
theorem iV.IG{k:Nat}{x:AV}{s:iM}(nid t e:Nat)(y:AV)(hd:sat s nid=.dead)(hxy:TW nid x y):iV k x s y (sset s nid (.lI t e 0 [])):=fun C β w v _ hi hx=>by
 obtain⟨β',h1,h2,h3⟩:=St.Uo (env:=[]) (a:={tmps:=#[],defers:=[]}) ⟨.nil,hi,rfl,fun i x hx=>by simp at hx⟩ t e hd;refine⟨β',h1.inv,hxy _ _ _ _ ?_ (h2 x v hx)⟩;simp only[AV.ok]at h3;obtain⟨_,u,n,h4,h5,h6⟩:=h3;have hob:=h1.inv.obs nid;rw[jA,ah rfl]at hob;obtain⟨u',bs,k1,_⟩:=hob;rw[k1]at h4⊢;obtain⟨rfl,rfl⟩:=h4;rw[h6 rfl];exact⟨rfl,rfl⟩
theorem iV.xF{k:Nat}{x:AV}{s:iM}(id id' q:Nat){L:List AV}{t e n e':Nat}{xs':List D}(hs:sat s id=.lI t e n L)(hq:L[q]?=some (.own e' id' xs'))
 (hk:k<=id') (hne:id≠id') (hw:Whole s id' e' xs'):
 iV k x s (x.jY (iQ id')) (sset (jz id' s) id (.lI t e n ((AV.ji (iQ id') L).set q (.dp (.sl e' none xs'))))):=
 iV.Ji (by have:=iW.xF (env:=[x]) id id' q hs hq hk hne hw;simpa only[AV.ji]using this)
theorem iV.adb{k:Nat}{x:AV}{s:iM}(id:Nat){t e n:Nat}{cs:List AV}(cs':List AV)(hs:sat s id=.lI t e n cs)(h:cs=cs'):iV k x s x (sset s id (.lI t e n cs')):=
 iV.Ji (iW.adb id cs' hs h)
theorem TB:yd []=true:=(rfl)
theorem aaQ{x:D}{xs:List AV}:yd (.d x::xs)=yd xs:=(rfl)
theorem TC{e id:Nat}{ds:List D}{xs:List AV}:yd (.own e id ds::xs)=yd xs:=(rfl)
theorem TA{e id n:Nat}{xs:List AV}:yd (.kU e id n::xs)=yd xs:=(rfl)
attribute [go_sem] TB aaQ TC TA
theorem JM{xs:List AV}:wA xs xs<->True:=⟨fun _=>trivial,fun _=>wA.refl xs⟩
attribute [go_sem] JM ne_eq not_false_eq_true
theorem EK{ρ:Nat->Option Nat}{xs:List AV}{n:Nat}:AV.ji ρ (xs.take n)=(AV.ji ρ xs).take n:=by simp only[kB,bO]
theorem EJ{ρ:Nat->Option Nat}{xs:List AV}{n:Nat}:AV.ji ρ (xs.drop n)=(AV.ji ρ xs).drop n:=by simp only[kB,bR]
attribute [go_sem] EK EJ
theorem Inv.OD{C:Ctx}{β:i_}{s:iM}{w:World}(h:Inv C β s w){id e n:Nat}{xs:List D}(hs:sat s id=.kT e n (je xs))(he:∀x∈xs,(iI x).length=e)(h0:0<e):n=xs.length:=by
 have ho:=h.obs id;rw[hs]at ho;obtain⟨u,bs,_,_,hl,_⟩:=ho;rw[Ce he]at hl;exact(Nat.eq_of_mul_eq_mul_right h0 hl).symm
section
variable{α γ:Type}[Inhabited α]{f:α->D}{f':γ->D}{e e' n k0:Nat}{s:iM}{env:List AV}{xs:List α}{y y':α}{ys:List γ}{i k:Nat}
theorem He(hi:i<xs.length):xs.set i (xs.getD i default)=xs:=by
 rw[List.getD_eq_getElem?_getD,az hi];exact List.set_getElem_self hi
theorem Cy(hi:i<xs.length):(xs.set i y).getD i default=y:=by rw[List.getD_eq_getElem?_getD,List.getElem?_set_self hi];rfl
theorem Up[sW f e](hi:i<xs.length)(hk:k<e):(je ((xs.set i y).map f))[i*e+k]?=some (xg ((iI (f y)).getD k .any)):=by
 have:=XG (f:=f) (e:=e) (xs:=xs.set i y) (i:=i) (k:=k) (by simpa using hi) hk;rwa [Cy hi]at this
theorem Hq[sW f e]{d:D}(hi:i<xs.length)(hk:k<e)(h:(iI (f y)).set k d=iI (f y')):
 (je ((xs.set i y).map f)).set (i*e+k) (xg d)=je ((xs.set i y').map f):=by
 rw[QH (xs:=xs.set i y) (y:=y') (by simpa using hi) hk (by rw[Cy hi];exact h),List.set_set]
theorem QG[sW f e]{d:D}{x:AV}{m m':Nat}(hi:i<xs.length)(hk:k<e)(hm:m=i*e+k)(hm':m'=m+1)(hx:x=xg d)(h:(iI (f y)).set k d=iI (f y')):
 (je ((xs.set i y).map f)).take m++[x]++(je ((xs.set i y).map f)).drop m'=je ((xs.set i y').map f):=by
 subst hm;subst hm';subst hx;rw[T7 (by rw[D3,dW];exact I9 hi hk),Hq hi hk h]
theorem EV[sW f e]{L:List AV}{m m':Nat}(hi:i<xs.length)(hm:m=i*e)(hm':m'=i*e+e)(hL:L=(iI (f y)).map xg):
 (je (xs.map f)).take m++L++(je (xs.map f)).drop m'=je ((xs.set i y).map f):=by
 subst hm;subst hm';subst hL;have h1:=EA sW.len xs i 0 hi (cS e) (f:=f);have h2:=B8 sW.len xs i e hi (aC e) (f:=f);rw[Cd,Cd,<-bO,<-bR,h2];rw[dh]at h1;rw[h1,dA,aT,bE (by rw[sW.len];exact aC _),aZ,cz,ah hi,vB,nE];simp only[aQ,aF]
theorem EO[sW f e]{x:AV}(hi:i<xs.length)(hk:k<e):((je ((xs.set i y).map f)).set (i*e+k) x).getD (i*e+k) .iO=x:=by rw[List.getD_eq_getElem?_getD,de,ah rfl,ah (by rw[D3,dW];exact I9 hi hk)];rfl
theorem M1[sW f e]{x:AV}(hi:i<xs.length)(hk:0<e):((je ((xs.set i y).map f)).set (i*e) x).getD (i*e) .iO=x:=EO (k:=0) hi hk
theorem iW.PV[sW f e][sW f' e'][Cl f'](id c i k:Nat){m:Nat}(hs:sat s id=.kT e n (je ((xs.set i y).map f)))(hi:i<xs.length)(hk:k<e)(hm:m=i*e+k)(hy:(iI (f y)).getD k .any=iH e' f' ys)
 (hd:sat s c=.dead) (hc:k0<=c):
 iW k0 env s env (sset (sset s c (.kT e' ys.length (je (ys.map f')))) id (.kT e n ((je ((xs.set i y).map f)).set m (.kU e' c ys.length)))):=by
 subst hm;have h1:=Up (f:=f) (e:=e) (xs:=xs) (y:=y) hi hk;rw[hy]at h1;have:=iW.extract (env:=env) (k:=k0) id c (i*e+k) hs h1 hd hc uq.1 uq.2;simpa only[aJ]using this
theorem iW.O9[sW f e][sW f' e'][Cl f'](id c i k:Nat){m q q':Nat}(hs:sat s id=.kT e n ((je ((xs.set i y).map f)).set m (.kU e' c q)))(hcs:sat s c=.kT e' q' (je (ys.map f')))(hq:q=q')
 (hi:i<xs.length) (hk:k<e) (hm:m=i*e+k) (h0:0<e') (h:(iI (f y)).set k (iH e' f' ys)=iI (f y')) (hc:k0<=c) (hne:id≠c):
 iW k0 env s (AV.ji (iQ c) env) (sset (rS c s) id (.kT e n (je ((xs.set i y').map f)))):=fun C β a w hC hst=>by
 subst hC;subst hm;subst hq;have hlen:=hst.inv.OD hcs uq.1 h0;rw[aJ]at hlen;subst hlen;have hj:((je ((xs.set i y).map f)).set (i*e+k) (.kU e' c ys.length))[i*e+k]?=some (.kU e' c (ys.map f').length):=by rw[de,ah rfl,ah (by rw[D3,dW];exact I9 hi hk),aJ]
 obtain⟨β',h2⟩:=hst.Nu hne hc hs hj (yc.of hcs rfl);have hcs':(AV.ji (iQ c) ((je ((xs.set i y).map f)).set (i*e+k) (.kU e' c ys.length))).set (i*e+k) (.dp (.sl e' none (ys.map f')))=je ((xs.set i y').map f):=by
  rw[Cc,jg,List.set_set];exact Hq hi hk h
 rw[hcs']at h2;have hsat:∀q,sat (sset (rS c s) id (.kT e n (je ((xs.set i y').map f)))) q=sat (sset (jz c s) id (.kT e n (je ((xs.set i y').map f)))) q:=fun q=>by rw[jA,jA,BQ]
 obtain⟨g1,g2⟩:=h2.inv.told (s':=sset (rS c s) id (.kT e n (je ((xs.set i y').map f)))) fun q=>by rw[hsat];exact vl.refl _
 exact⟨β',h2.defers,g1,h2.len,fun j x hx=>by rw[g2];exact h2.env j x hx⟩
theorem iW.RH[sW f' e'][Cl f'](id c q:Nat){A L B:List AV}{m m':Nat}(hs:sat s id=.kT e n (A++L++B))(hq:L[q]?=some (.kU e' c m))(hcs:sat s c=.kT e' m' (je (ys.map f')))(hm:m=m')(h0:0<e')
 (hc:k0<=c) (hne:id≠c):
 iW k0 env s (AV.ji (iQ c) env) (sset (jz c s) id (.kT e n (AV.ji (iQ c) A++(AV.ji (iQ c) L).set q (.dp (iH e' f' ys))++AV.ji (iQ c) B))):=fun C β a w hC hst=>by
 subst hC;subst hm;have hlen:=hst.inv.OD hcs uq.1 h0;rw[aJ]at hlen;subst hlen;have hqL:q<L.length:=(aO.1 hq).1;have hj:(A++L++B)[A.length+q]?=some (.kU e' c (ys.map f').length):=by rw[aF,bJ iA,cF,aV hqL,hq,aJ]
 obtain⟨β',h2⟩:=hst.Nu hne hc hs hj (yc.of hcs rfl);refine⟨β',?_⟩;have:(AV.ji (iQ c) (A++L++B)).set (A.length+q) (.dp (.sl e' none (ys.map f')))=AV.ji (iQ c) A++(AV.ji (iQ c) L).set q (.dp (iH e' f' ys))++AV.ji (iQ c) B:=by
  rw[uo,uo,aF,aF,fE,aj (by rw[lN];omega),lN,cF,fE,ah (by rw[lN];exact hqL)];rfl
 rw[this]at h2;exact h2
end
attribute [go_sem] EO M1 D3
theorem iW.agP{α:Type}{f:α->D}{e n m k0 id:Nat}{s:iM}{env:List AV}{z:List AV}(x0:α)(hs:sat s id=.kT e n ((List.replicate m z).flatten))(h:wA z ((iI (f x0)).map xg)):
 iW k0 env s env (sset s id (.kT e n (je ((List.replicate m x0).map f)))):=
 iW.adg id _ hs (by rw[List.map_replicate];exact wA.rep h m)
attribute [go_sem] Sum.elim_inl Sum.elim_inr
section
variable{P:Program}{k0 f:Nat}{args env:List AV}{s:iM}{d:Option Nat}{R:List AV->iM->Prop}
theorem G4{α1 α2 β:Type}{x:Option (α1⊕α2)}{K1:α1->Option β}{K2:α2->Option β}{r:β}{q1:α1->Prop}{q2:α2->Prop}(pr nw:List gU){dz:List AV}{s1:iM}{t1:α1->iM}{t2:α2->iM}{y1:α1->AV}{y2:α2->AV}[i:jf x fun a=>iR P f dz s1 pr.length fun x s'=>x=Sum.elim y1 y2 a/\s'=Sum.elim t1 t2 a]
 (h:Vh x (Sum.elim K1 K2) r) (hk1:∀a,x=some (.inl a)->K1 a=some r->q1 a) (hk2:∀a,x=some (.inr a)->K2 a=some r->q2 a)
 (e1:∀a,R (jB d env ((y1 a).jY (nF (pr++nw)))) (tj s (t1 a) (pr++nw) (pr++nw))=q1 a:=by intro a;first|((conv=>lhs;simp(maxSteps:=1000000) (disch:=omega)only[go_sem,mm,mg,nW,nU,bN,aT,aZ,Nat.reduceAdd,Nat.reduceSub,Nat.reduceLeDiff,Nat.reduceEqDiff,Nat.reduceLT,Int.reduceToNat,reduceIte,reduceCtorEq])<;>rfl)|rfl)
 (e2:∀a,R (jB d env ((y2 a).jY (nF (pr++nw)))) (tj s (t2 a) (pr++nw) (pr++nw))=q2 a:=by intro a;first|((conv=>lhs;simp(maxSteps:=1000000) (disch:=omega)only[go_sem,mm,mg,nW,nU,bN,aT,aZ,Nat.reduceAdd,Nat.reduceSub,Nat.reduceLeDiff,Nat.reduceEqDiff,Nat.reduceLT,Int.reduceToNat,reduceIte,reduceCtorEq])<;>rfl)|rfl)
 (h1:pr.map (·.1)=List.range pr.length:=by rfl) (h2:((pr++nw).map (·.1)).Nodup:=by decide) (h3:((pr++nw).map (·.2)).Nodup:=by decide)
 (h4:∀p∈nw,sat s p.2=.dead/\k0<=p.2:=by simp[sat]) (ha:ju (args.map fun x=>x.jY (qu pr)) dz:=by exact nh) (hs:lM (nM s pr pr) s1:=by exact nh):mA P k0 f args env s d R:=by
 obtain⟨a,g1,g2⟩:=bind_some h;cases a with
 |inl a=>exact IV pr nw (i.c g1) h1 h2 h3 h4 ha hs ((e1 a).symm▸hk1 a g1 g2)
 |inr a=>exact IV pr nw (i.c g1) h1 h2 h3 h4 ha hs ((e2 a).symm▸hk2 a g1 g2)
end
theorem Mm{l:List AV}{c x:AV}{n:Nat}:(c::l).getD (1+n) x=l.getD n x:=by rw[cP];rfl
theorem Nc{l:List AV}{c:AV}{n:Nat}:List.take (1+n) (c::l)=c::List.take n l:=by rw[cP];rfl
attribute [go_sem] Mm Nc
theorem FL{α:Type}{f:α->D}{xs:List α}{i:Nat}{a c:AV}{v:α}(h:i<xs.length)(hle:AV.le a (.d (f v))):
 ju (c::(List.map (aD f) (List.take i xs)++[a]++List.map (aD f) (List.drop (1+i) xs))) (c::(xs.set i v).map (aD f)):=by
 rw[cP 1 i];exact⟨AV.le_refl _,KJ h hle⟩
def RE(K:Nat)(Q:Post)(e:Exit)(env env':List AV)(s':iM):Prop:=∃s'',(∃env'',iW K env' s' env'' s'')/\Q e env s''
theorem RE.of{K:Nat}{Q:Post}{e:Exit}{env env' env'':List AV}{s' s2:iM}(hw:iW K env' s' env'' s2)(h:Q e env s2):RE K Q e env env' s':=⟨s2,⟨_,hw⟩,h⟩
section
variable{P:Program}{k:Nat}{Q:Post}{env:List AV}{s:iM}
theorem aaZ{ι:Type}{K:Nat}{env env':List AV}{s':iM}{S:ι->iM}{next:ι->Prop}:HS K env S next Q .ret env' s'=RE K Q .ret env env' s':=(rfl)
end
attribute [go_sem] aaZ
theorem SX{α:Type}{n:Nat}{xs:List α}:PX n xs.length=(List.take n xs).length:=(bF).symm
theorem SV{α:Type}{f:α->D}{e n:Nat}[sW f e]{xs:List α}:Wd n e (lF f xs)=lF f (List.take n xs):=by
 unfold Wd;induction xs generalizing n with
 |nil=>simp[lF]
 |cons x xs ih=>
  cases n with
  |zero=>simp[lF]
  |succ n=>rw[cC,nE,nE,gb,cP,List.take_append,bI (by rw[sW.len (f:=f)];omega),sW.len (f:=f),cF,ih]
attribute [go_sem] SX SV
section
variable{E:Ending->Value->Prop}{P:Program}{f:Nat}
theorem rU.args{args dz:List AV}{s:iM}{k:Nat}{R:AV->iM->Prop}(h:rU E P f dz s k R)(hl:ju args dz):rU E P f args s k R:=
 fun C vs h1 h2 h3 h4=>h C vs h1 h2 h3 (hl.jk h4)
theorem rU.XC{dz:List AV}{s s1:iM}{k:Nat}{R:AV->iM->Prop}(h:rU E P f dz s1 k R)(hs:lM s s1):rU E P f dz s k R:=fun C vs h1 h2 h3 h4=>by
 subst h1;have hs':=hs.sat;obtain⟨h5,h6⟩:=h3.told hs';refine(h {C with s:=s1} vs rfl h2 ((Inv.ctx hs').1 h5) (by
  show AV.jk C.β (Ctx.iN {C with s:=s1} C.β s1) C.w dz vs.toList;have:Ctx.iN {C with s:=s1} C.β s1=C.iN C.β C.s:=h6;rw[this];exact h4)).mono fun e w' ⟨v,x,β',s',e1,e2,e3,e4⟩=>⟨v,x,β',s',e1,(Inv.ctx hs').2 e2,e3,e4⟩
end
def Ej{α1 α2:Type}(pv:Value)(P:Program)(f:Nat)(args:List AV)(s:iM)(k:Nat)(y1:α1->AV)(t1:α1->iM)(t2:α2->iM)(a:α1⊕α2):Prop:=
 rU (XE pv) P f args s k fun x s'=>x=Sum.elim (fun a=>.kZ [y1 a,okB true]) (fun _=>.kZ [okB false,okB false]) a/\s'=Sum.elim t1 t2 a
theorem rU.done{E:Ending->Value->Prop}{P:Program}{f:Nat}{args:List AV}{s:iM}{k:Nat}{y:AV}{t:iM}(h:rU E P f args s k fun x s'=>iV k x s' y t):rU E P f args s k fun x s'=>x=y/\s'=t:=fun C vs h1 h2 h3 h4=>
 (h C vs h1 h2 h3 h4).mono fun _ w' ⟨v,_,β',_,e1,e2,e3,e4⟩=>let⟨β2,h5,h6⟩:=e4 C β' w' v h2 e2 e3;⟨v,y,β2,t,e1,h5,h6,rfl,rfl⟩
theorem jV.XU{pv:Value}{P:Program}{f:Nat}{mc:iJ}{n:Nat}{rs:List vK}(h:jV P f mc n rs){args:List AV}{s:iM}{k:Nat}{α1 α2:Type}{y1:α1->AV}{t1:α1->iM}{t2:α2->iM}{a:α1⊕α2}
 (hm:oR P k mc (Km pv rs fun x s'=>iV k x s' (Sum.elim (fun a=>.kZ [y1 a,okB true]) (fun _=>.kZ [okB false,okB false]) a) (Sum.elim t1 t2 a)) (args++List.replicate (n-args.length) .iO) s):
 Ej pv P f args s k y1 t1 t2 a:=rU.done (h.abd hm)
theorem vC.call{α1 α2 β:Type}{x:Option (α1⊕α2)}{K1:α1->Option β}{K2:α2->Option β}{r:β}{pv:Value}{P:Program}{k0:Nat}{Q:Post}{d:Option Nat}{f:Nat}{args:List Operand}{env:List AV}{s:iM}(pr nw:List gU){dz:List AV}{s1:iM}{t1:α1->iM}{t2:α2->iM}{y1:α1->AV}
 [i:jf x fun a=>Ej pv P f dz s1 pr.length y1 t1 t2 a] (h:Vh x (Sum.elim K1 K2) r)
 (hk1:∀a,x=some (.inl a)->K1 a=some r->Q .normal (jB d env ((y1 a).jY (nF (pr++nw)))) (tj s (t1 a) (pr++nw) (pr++nw)))
 (hk2:∀a,x=some (.inr a)->K2 a=some r->Q (pch pv) env (tj s (t2 a) (pr++nw) (pr++nw)))
 (h1:pr.map (·.1)=List.range pr.length) (h2:((pr++nw).map (·.1)).Nodup) (h3:((pr++nw).map (·.2)).Nodup)
 (h4:∀p∈nw,sat s p.2=.dead/\k0<=p.2) (ha:ju ((args.map (ev env)).map fun x=>x.jY (qu pr)) dz) (hs:lM (nM s pr pr) s1):vC P k0 pv Q ⟨d,.mB f args,none⟩ env s:=by
 obtain⟨a,g1,g2⟩:=bind_some h;refine⟨pr,nw,_,h1,h2,h3,h4,(rU.XC (i.c g1) hs).args ha,fun x s' ⟨e1,e2⟩=>?_⟩;subst e1 e2;cases a with
 |inl a=>
  refine⟨(y1 a).jY (nF (pr++nw)),true,?_,fun _=>hk1 a g1 g2,fun e=>by cases e⟩;simp only[eC,AV.jY,AV.ji,okB]
 |inr a=>
  refine⟨okB false,false,?_,fun e=>Bool.noConfusion e,fun _=>hk2 a g1 g2⟩;simp only[eZ,AV.jY,AV.ji,okB]
theorem vC.Hz{pv:Value}{P:Program}{k0:Nat}{Q:Post}{x:Operand}{env:List AV}{s:iM}{t:Nat}{u:Value}(hx:ev env x=.d (.lit (.iface t u)))(hp:pv=.iface t u)(h:Q (pch pv) env s):vC P k0 pv Q ⟨none,.Hz x,none⟩ env s:=by
 subst hp;exact⟨hx,⟨t,u,rfl⟩,h⟩
section
variable{P:Program}{k:Nat}{Q:Post}{env:List AV}{s:iM}{K:List AV->iM->Prop}{pv:Value}
theorem aas{rs:List vK}{R:AV->iM->Prop}:Km pv rs R .normal env s=zH env s rs fun xs=>R (.kZ [xe xs,okB true]) s:=(rfl)
theorem aat{rs:List vK}{R:AV->iM->Prop}:Km pv rs R .ret env s=zH env s rs fun xs=>R (.kZ [xe xs,okB true]) s:=(rfl)
attribute [go_sem] aas aat okB
def PN(ms:List jo)(after:List g_)(pv:Value)(P:Program)(k:Nat)(Q:Post)(m0:jo)(acc:List (List Nat×List Nat))(env:List AV)(s:iM):Prop:=yX ms after acc.reverse=true/\vC P k pv Q m0 env s
theorem PN.of{ms:List jo}{af:List g_}{m0:jo}{acc:List (List Nat×List Nat)}(h1:yX ms af acc.reverse=true)(h2:vC P k pv Q m0 env s):PN ms af pv P k Q m0 acc env s:=⟨h1,h2⟩
theorem WA{ms:List jo}{m0:jo}{after:List g_}(pv:Value)(hP:P.follows .mixedOrders=true)(hg0:m0.guard=none)
 (hlast:((List.range ms.length).all fun i=>((J9 after).getD ms.length []).contains i)=true) (h:yt P k (PN ms after pv P k Q m0) ms [] env s):oR P k (.draw (ms++[m0]) after) Q env s:=WB pv hP hg0 hlast h
theorem I2{rs:List vK}{R:AV->iM->Prop}(h:R (.kZ [okB false,okB false]) s):Km pv rs R (pch pv) env s:=⟨rfl,h⟩
end
theorem iR.aaO{P:Program}{f:Nat}{args:List AV}{s:iM}{k:Nat}{R:AV->iM->Prop}(j id t e:Nat){e0:Nat}(hd:sat s id=.dead)(hj:args[j]?=some (.d (.sl e0 (some true) [])))
 (h:iR P f (args.set j (.own e id [])) (sset s id (.tok t e 0)) (k+1) R) (hid:k<=id:=by decide):iR P f args s k R:=fun C vs h1 h2 h3 h4=>by
 subst h1;subst h2;have hst:St C C.β [] C.s {tmps:=#[],defers:=[]} C.w:=⟨.nil,h3,rfl,fun i x hx=>by simp at hx⟩;obtain⟨g1,m⟩:=hst.CY (id:=id) (t:=t) (e:=e) hd;have hI:=g1.inv;let C2:Ctx:={C with β:=iS C.β id (.tok uY 0),s:=sset C.s id (.tok t e 0),w:=C.w,k:=C.k+1};have hI2:Inv C2 C2.β C2.s C2.w:=hI.here (K:=C.k+1);have hargs:AV.jk C2.β (C2.iN C2.β C2.s) C2.w (args.set j (.own e id [])) vs.toList:=by
  refine DN hj (fun v hv=>?_) (m.jk h4);simp only[AV.ok]at hv;rw[CR hv];exact DQ (by simp[C2,iS])
 refine(h C2 vs rfl rfl hI2 hargs).mono fun e w' ⟨v,x,β',s',e1,e2,e3,e4⟩=>⟨v,x,β',s',e1,?_,e3,e4⟩
 exact hI.back e2 (gA _)
theorem S6{P:Program}{l:Nat}{pre post:List jo}{d q0:Nat}{want:Bool}{g:Operand}{args:List Operand}{Q:wX}{env:List AV}{x:List D}{r:List (List D)}
 (hpre:xA P 0 pre env [] (fun env' s'=>∃env1,iW 0 env' s' env1 []/\AV.ji (fun _=>none) env1=env1/\ev env1 g=.d (.lit (.func (.yield l) #[] #[]))/\args.map (ev env1)=x.map .d/\env1.getD q0 .iO=.d (.lit (.bool want))/\
  ∀b,xA P 0 post (env1.set d (.d (bD b))) [] (fun env' s'=>∃env2,iW 0 env' s' env2 []/\AV.ji (fun _=>none) env2=env2/\Q .normal env2 (if b then some r else none)))):
 Ft P l (.iE (pre++⟨some d,.pJ g args,some (some q0,want)⟩::post)) Q env (some (x::r)):=fun c hc els J Jx hJ n X a W hst hl=>by
 obtain⟨rid,ops,rfl,mops⟩:=DF (ms:=(pre++⟨some d,.pJ g args,some (some q0,want)⟩::post).map jo.erase) hc;have hlen:ops.size=pre.length+(1+post.length):=by
  have:=(za mops).1;simp at this;omega
 obtain⟨t1,t2⟩:=Au pre.length mops;have e1:(List.map jo.erase (pre++⟨some d,.pJ g args,some (some q0,want)⟩::post)).take pre.length=pre.map jo.erase:=by rw[aQ];exact er (by simp)
 have e2:(List.map jo.erase (pre++⟨some d,.pJ g args,some (some q0,want)⟩::post)).drop pre.length=(⟨some d,.pJ g args,some (some q0,want)⟩::post).map jo.erase:=by rw[aQ];exact List.drop_left' (by simp)
 rw[e1]at t1;rw[e2]at t2;obtain⟨t3,t4⟩:=Au 1 t2;rw[List.drop_drop]at t4;simp only[aK,cC,dA,fP,bN]at t3 t4;have hlt:pre.length<ops.toList.length:=by simp;omega
 rw[ay hlt]at t3;simp only[cC,dA,cx,List.mapM_nil,cu,dH,av,aP]at t3;obtain⟨m0,q6,_,rfl,q6'⟩:=t3;simp only[bY,fZ]at q6';subst q6';have g6:ops[pre.length]?=some ops.toList[pre.length]:=by simp at hlt;simp[hlt]
 generalize ops.toList[pre.length]=o6 at q6 g6;obtain⟨p6,d6,gd6⟩:=xI q6;have hmo6:kY P o6=some (.pJ g args):=by
  cases hq:kY P o6 with
  |some y=>rw[hq]at p6;rw[show y=vJ.pJ g args from p6.symm]
  |none=>rw[hq]at p6;cases p6
 obtain⟨cl,hop6,hcal,hargs6⟩:=Gn hmo6;obtain⟨j6,hgd6,hj6⟩:∃j,o6.guard=some (j,want)/\(ops[j]?).bind (·.dst)=some q0:=by
  cases hq:o6.guard with
  |none=>rw[hq]at gd6;cases gd6
  |some x=>
   rw[hq]at gd6;simp only[jo.erase,aH,aP,dY]at gd6;exact⟨x.1,by rw[gd6.2],gd6.1.symm⟩
 have hdst6:o6.dst=some d:=d6.symm;obtain⟨hn,hdr,hJn⟩:=hl;have hnl:n<els.length:=by
  rcases cO n els.length with h|h
  ·exact h
  ·rw[bE h]at hdr;cases hdr
 have hx:els.getD n []=x/\els.drop (n+1)=r:=by
  rw[ay hnl]at hdr;simp only[bY]at hdr;exact⟨by rw[List.getD_eq_getElem?_getD,az hnl];exact hdr.1,hdr.2⟩
 refine wpIn_region ?_;rw[hlen,dL];refine BY (C:=zV X W) (m:=1+post.length) pre.length 0 pre _ [] (by rw[hlen];omega) (by rw[bN];exact t1) hpre _ a W hst fun β' env' s' a4 W4 hst4 hK0=>?_
 obtain⟨env4,hw4,hid4,hyv4,hargs4,hq4,hpost⟩:=hK0;obtain⟨β4,hst4'⟩:=hw4 (zV X W) β' a4 W4 rfl hst4;have hg4:W.grownBy W4 none:=zV.grown hst4.inv;have hst5:=hst4'.again (W2:=W4) (X:=X) (Ext.refl _) hid4 (fun b o h=>ct (hst.inv.low b o h).1 hg4.size) (fun b o v h h'=>⟨h,h'⟩);have hJ4:=hJ.jn _ _ _ _ hJn hg4;rw[bU,show 1+post.length=post.length+1 by omega,dQ];rw[wpOpsIn];rw[g6];simp only;have hwant:Region.wanted o6 (yielded ops a4.tmps)=true:=by
  simp only[Region.wanted,hgd6];rw[D7 hst5 hj6 hq4];simp
 rw[ah hwant];refine⟨fun _ _=>trivial,?_⟩;have hnd:∀c,o6.op≠ .defer c:=by rw[hop6];simp
 have hyv:a4.eval g=.func (.yield l) #[] #[]:=by
  have:=hst5.ev g;rw[hyv4]at this;exact tO this
 rw[eA _ _ _ hnd,IJ (l:=l) hop6 hcal hyv];have hoks:AV.jk (fun _=>.no) X W4 ((els.getD n []).map .d) (cl.args.map a4.eval).toList:=by
  have:=CM hst5 args;rw[hargs4,zV.iN]at this;rw[hx.1,dy,hargs6];exact this
 obtain⟨fn',tmps',dz',bd',hy,hR⟩:=hJ.round n X W4 _ hnl hJ4 hoks;rw[hy,Oper.uponIn_round];refine⟨(fun h=>by cases h),RoundIn.mono hR ?_⟩;rintro e5 W5 ⟨X5,hres5,hX5,hk5⟩;obtain⟨bb,rfl,hJ5⟩:∃bb,e5=.returned (.bool bb)/\Live els J Jx (n+1) X5 W5 (if bb then some r else none):=by
  rcases hres5 with⟨h1,h2⟩|⟨h1,h2⟩
  ·exact⟨true,h1,hnl,hx.2,h2⟩
  ·exact⟨false,h1,n,hnl,h2⟩
 show wpOpsIn Fence.wide 0 P ops _ (List.range' (pre.length+1) post.length) (a4.put o6.dst (.bool bb)) W5;rw[hdst6];have hst6:St (zV X5 W5) (fun _=>.no) (env4.set d (.d (bD bb))) [] (a4.put (some d) (.bool bb)) W5:=
  (hst5.again (Ext.refl _) hid4 hX5 hk5).put (x:=.d (bD bb)) (v:=.bool bb) (by simp[AV.ok,bD,D.ok,one]) (some d)
 have:=BY (C:=zV X5 W5) (Q:=fun e a' W'=>∃n' X' env' r',St (zV X' W') (fun _=>.no) env' [] a' W'/\Live els J Jx n' X' W' r'/\Q e env' r') (m:=0) post.length (pre.length+1) post _ [] (by rw[hlen];omega) (by rw[bI (by simp;omega)];exact t4) (hpost bb) _ _ W5 hst6 fun β' env' s' a7 W7 hst7 hK0=>?_
 ·rw[dh]at this;exact this
 obtain⟨env7,hw7,hid7,hQ7⟩:=hK0;obtain⟨β7,hst7'⟩:=hw7 (zV X5 W5) β' a7 W7 rfl hst7;have hg7:W5.grownBy W7 none:=zV.grown hst7.inv;have hst8:=hst7'.again (W2:=W7) (X:=X5) (Ext.refl _) hid7 (fun b o h=>ct (hX5 b o h) hg7.size) (fun b o v h h'=>⟨h,h'⟩);exact⟨n+1,X5,env7,_,hst8,hJ5.grow hJ hg7,hQ7⟩
def AV.Xb(id:Nat)(ds:List D):AV->AV
 |.ptr j off=>if j=id then .pv (ds.drop off)else .ptr j off
 |x=>x.jY (iQ id)
theorem iW.Xb{k:Nat}{env:List AV}{s:iM}(id:Nat){t:Nat}{ds:List D}(hid:k<=id)(ho:sat s id=.obj t (ds.map .d)):iW k env s (env.map (AV.Xb id ds)) (jz id s):=fun C β a w hC hst=>by
 subst hC;have hi:=hst.inv;have hob:=hi.obs id;rw[ho]at hob;obtain⟨b,us,hb,hh,hone,pre,rst,hus,hpre⟩:=hob;have h2:=hi.kill id hid;have hblk:iG β s id b:=by unfold iG;rw[ho];exact hb
 have hnot:∀o,¬C.iN (iS β id .no) (jz id s) b o:=fun o hq=>by
  rcases hq with hq|hq
  ·have h1:=hi.low b o hq;have hown:own β s b o:=⟨id,by rw[ho];exact hb⟩;rcases hi.qz b o hown with h3|h3
   ·exact h1.2 h3
   ·omega
  ·obtain⟨j,hj⟩:=hq.block;have hj1:=wD hj;have hji:j≠id:=fun e=>by subst e;unfold iG at hj;rw[qc,ah rfl]at hj;exact hj
   exact hji (hi.inj j id b hj1 hblk)
 have dm:∀{x:D}{u:Value},D.ok (C.iN β s) w x u->D.ok (C.iN (iS β id .no) (jz id s)) w x u:=fun{x u} hx=>D.kA (fun b o v hc hn'=>⟨hc,fun h=>hn' (h.imp (fun x=>x) wM)⟩) _ _ hx
 refine⟨_,hst.defers,h2,by rw[aJ];exact hst.len,fun i x hx=>?_⟩;rw[bt]at hx;obtain⟨y,hy,rfl⟩:=aB.1 hx;have hyo:=hst.env i y hy;have gen:∀z:AV,(∀j off,z≠ .ptr j off)->AV.Xb id ds z=z.jY (iQ id):=fun z hz=>by
  cases z<;>first|rfl|exact absurd rfl (hz _ _)
 by_cases hp:∃j off,y=.ptr j off
 ·obtain⟨j,off,rfl⟩:=hp;simp only[AV.Xb];by_cases hj:j=id
  ·subst hj;rw[ah rfl];simp only[AV.ok]at hyo;obtain⟨b2,hb2,hv⟩:=hyo;rw[hb]at hb2;cases hb2;rw[hv];have hl:=AV.jy hpre;have hp2:=(AV.j_.1 hpre).2;refine⟨b,off,pre.drop off,rfl,fun q u hq=>?_,?_⟩
   ·rw[cK]at hq;have hq2:us.toList[off+q]?=some u:=by rw[hus,aV (aO.1 hq).1];exact hq
    refine⟨?_,hnot _,hone u (bW hq2)⟩;simp only[World.cell?,hh,cA,aq,aE];simpa using hq2
   ·refine D.j_.2 ⟨by simp at hl;simp[hl],fun q x u hx hu=>?_⟩;rw[cK]at hx hu;have hu2:us.toList[off+q]?=some u:=by rw[hus,aV (aO.1 hu).1];exact hu
    refine⟨hone u (bW hu2),?_⟩;have:=hp2 (off+q) (.d x) u (by rw[bt,hx];rfl) hu;simp only[AV.ok]at this;exact dm this
  ·rw[aj hj];have:=xH (id:=id) hyo;simpa only[AV.jY,iQ,aj hj]using this
 ·rw[gen y fun j off e=>hp ⟨j,off,e⟩];exact xH hyo
section
variable{id:Nat}{ds:List D}
theorem TO:AV.Xb id ds .iO=.iO:=(rfl)
theorem adi{x:D}:AV.Xb id ds (.d x)=.d x:=(rfl)
theorem aaW{xs:List D}:AV.Xb id ds (.pv xs)=.pv xs:=(rfl)
theorem Xd{j off:Nat}:AV.Xb id ds (.ptr j off)=if j=id then .pv (ds.drop off)else .ptr j off:=(rfl)
end
attribute [go_sem] TO adi aaW Xd jz
theorem iR.eq{P:Program}{f:Nat}{args:List AV}{s:iM}{k:Nat}{y y':AV}{t t':iM}(h:iR P f args s k fun x s'=>x=y/\s'=t)(hy:y=y')(ht:t=t'):
 iR P f args s k fun x s'=>x=y'/\s'=t':=by subst hy;subst ht;exact h
mutual
inductive O8(tl:List (Nat×Nat×List D)):AV->D->Prop
 |lit {u:Value}:O8 tl (.d (.lit u)) (.lit u)
 |kU {e id n:Nat} {ds:List D} (h:yc (toks tl) id e ds) (hn:n=ds.length):O8 tl (.kU e id n) (.sl e none ds)
 |agg {xs:List AV} {ds:List D} (h:JO tl xs ds):O8 tl (.agg xs) (.agg ds)
inductive JO(tl:List (Nat×Nat×List D)):List AV->List D->Prop
 |nil:JO tl [] []
 |cons {x:AV} {a:D} {xs:List AV} {ds:List D} (h:O8 tl x a) (hs:JO tl xs ds):JO tl (x::xs) (a::ds)
end
mutual
theorem O8.ok{C:Ctx}{β β2:i_}{tl:List (Nat×Nat×List D)}{w:World}(h:Inv C β (toks tl) w):∀{x:AV}{a:D}{v:Value},O8 tl x a->AV.ok β (C.iN β (toks tl)) w x v->D.ok C.O w a v
 |_,_,v,.lit,hv=>by simp only[AV.ok,D.ok]at hv⊢;exact hv
 |_,_,v,.kU hw hn,hv=>KI h hw hn hv
 |_,_,v,.agg hl,hv=>by
  simp only[AV.ok]at hv;obtain⟨vs,rfl,h1,h2⟩:=hv;simp only[D.ok];exact⟨vs,rfl,JO.jk (β2:=β2) h hl h1 h2⟩
theorem JO.jk{C:Ctx}{β β2:i_}{tl:List (Nat×Nat×List D)}{w:World}(h:Inv C β (toks tl) w):∀{xs:List AV}{ds:List D}{vs:List Value},JO tl xs ds->(∀u∈vs,one u=true)->AV.jk β (C.iN β (toks tl)) w xs vs->D.jk C.O w ds vs
 |_,_,vs,.nil,_,hv=>by simpa[AV.jk,D.jk]using hv
 |_,_,vs,.cons hl hs,h1,hv=>by
  simp only[AV.jk]at hv;obtain⟨v,r,rfl,h2,h3⟩:=hv;simp only[D.jk];exact⟨v,r,rfl,h1 v (by simp),O8.ok (β2:=β2) h hl h2,JO.jk (β2:=β2) h hs (fun u hu=>h1 u (by simp[hu])) h3⟩
end
theorem iR.pub{P:Program}{f:Nat}{dz:List D}{y:AV}{t:iM}{tl:List (Nat×Nat×List D)}{r:D}(hc:iR P f (dz.map .d) [] 0 fun x s'=>x=y/\s'=t)(ht:t=toks tl)(hp:O8 tl y r):jK P f dz r:=fun C vs hs hk hinv hargs=>by
 subst ht;refine(hc C vs hs hk hinv hargs).mono ?_;rintro e w' ⟨v,x,β',s',rfl,hi,hx,rfl,rfl⟩;refine⟨v,.d r,fun _=>.no,[],rfl,⟨hi.size,hi.io,hi.keep,hi.pU,fun b o ⟨id,h⟩=>h.elim,fun id b h=>h.elim,fun id hid=>by omega,hi.low,fun id=>rfl,fun i j b h=>h.elim⟩,?_,rfl⟩;have h1:=O8.ok (β2:=β') hi hp hx;simp only[AV.ok];exact D.kA (fun b o v hc hn=>⟨hc,fun h=>hn (h.elim (fun h=>h) fun⟨_,h⟩=>h.elim)⟩) r v h1
theorem O8.tok{α:Type}{f:α->D}{e n id:Nat}{xs:List α}{tl:List (Nat×Nat×List D)}[sW f e][Cl f](h:sat (toks tl) id=.kT e n (je (xs.map f)))(hn:n=xs.length):O8 tl (.kU e id n) (iH e f xs):=
 .kU (yc.of h hn) (by rw[hn,aJ])
theorem II{α:Type}{f:α->D}[JK f]:∀xs:List α,List.map (aD f) xs=je (xs.map f)
 |[]=>rfl
 |x::xs=>by
  rw[aK,aK,A0,II xs];have:=JK.lit (f:=f) x;cases h:f x with
  |lit u=>simp only[iI,aK,cJ,xg,aD,h];rfl
  |_=>rw[h]at this;cases this
theorem M3{α:Type}[Inhabited α]{f:α->D}[sW f 1]{xs:List α}{y:α}{i:Nat}{x:AV}(hi:i<xs.length):((je ((xs.set i y).map f)).set i x).getD i .iO=x:=by
 have:=EO (f:=f) (e:=1) (k:=0) (xs:=xs) (y:=y) (x:=x) hi (by decide);simpa using this
attribute [go_sem] M3
theorem Xn{i:Nat}{o:Ob}{s:iM}:sat ((i,o)::s) i=o:=by simp[sat]
theorem T6{i j:Nat}{o:Ob}{s:iM}(h:j≠i):sat ((i,o)::s) j=sat s j:=by simp[sat,h]
theorem Xo{j:Nat}:sat [] j=.dead:=rfl
theorem Ue{i:Nat}{o x:Ob}{s:iM}:sset ((i,o)::s) i x=(i,x)::s:=by simp[sset]
theorem XA{i j:Nat}{o x:Ob}{s:iM}(h:i<j):sset ((j,o)::s) i x=(i,x)::(j,o)::s:=by simp[sset,h,Nat.ne_of_lt h]
theorem Xz{i j:Nat}{o x:Ob}{s:iM}(h:j<i):sset ((j,o)::s) i x=(j,o)::sset s i x:=by simp[sset,Nat.ne_of_gt h,Nat.not_lt_of_gt h]
theorem Uf{i:Nat}{x:Ob}:sset [] i x=[(i,x)]:=rfl
attribute [go_sem] Xn T6 Xo Ue XA Xz Uf
theorem aaH{P:Program}{k:Nat}{Q:Post}{env:List AV}{s:iM}{x:iJ}(ws:List Nat)(h:oR P k x Q (tf env ws) s)(hw:iW k env s (tf env ws) s:=by(try dsimp only);exact wk):oR P k x Q env s:=aaK hw h
theorem iW.TE{k:Nat}{env:List AV}{s:iM}(id:Nat){t e n:Nat}{cs:List AV}(cs':List AV)(hs:sat s id=.lI t e n cs)(h:wA cs cs'):iW k env s env (sset s id (.lI t e n cs')):=fun C β a w hC hst=>by
 have hq:∀i,vl (sat s i) (sat (sset s id (.lI t e n cs')) i):=fun i=>by
  rw[jA];by_cases hi:i=id
  ·subst hi;rw[ah rfl,hs];exact⟨rfl,rfl,rfl,h⟩
  ·rw[aj hi];exact vl.refl _
 obtain⟨h1,h2⟩:=hst.inv.told hq;exact⟨β,hst.defers,h1,hst.len,fun i x hx=>by rw[h2];exact hst.env i x hx⟩
theorem iV.TE{k:Nat}{x:AV}{s:iM}(id:Nat){t e n:Nat}{cs:List AV}(cs':List AV)(hs:sat s id=.lI t e n cs)(h:wA cs cs'):iV k x s x (sset s id (.lI t e n cs')):=
 iV.Ji (iW.TE id cs' hs h)
theorem S3{P:Program}{ρ:Go.Shelf.Ren}(L:Go.Proofs.Lays8.n4 P ρ){i0:TypeInfo}{z:Value}(hi0:P.info? (ρ.t 25)=some i0)(hz0:i0.zero=some z)(hs0:0<i0.size)(hb0:0<i0.bytes)
 (hz1:z.cells.size=i0.size) (hz2:∀v∈z.cells.toList,one v=true) {n:Int} (h0:0<=n) (hb:n*i0.bytes<=140737488355328):
 iR P (ρ.f 4) [.d (.sl 0 (some true) []),.d (iD n)] [] 0 fun x s'=>x=.own i0.size 0 []/\s'=[(0,.tok (ρ.t 25) i0.size 0)]:=fun C vs hs hk hinv hargs=>by
 obtain⟨m,rfl⟩:=Int.eq_ofNat_of_zero_le h0;have hst:St C C.β [] C.s {tmps:=#[],defers:=[]} C.w:=⟨.nil,hinv,rfl,fun i x hx=>by simp at hx⟩;have hvs:vs=#[.slice none 0 0,.int .i64 m]:=by
  simp only[AV.jk,AV.ok]at hargs;obtain⟨v,r,h1,h2,v2,r2,h3,h4,h5⟩:=hargs;have h2:=CR h2;have h4:=tO (β:=C.β) (O:=C.iN C.β C.s) (w:=C.w) (by simp only[AV.ok];exact h4);subst h2 h4 h5 h3;exact dN (by simpa[uY]using h1)
 subst hvs;have hd:sat C.s 0=.dead:=by rw[hs];rfl
 rcases fU m with rfl|hm
 ·refine(Go.Proofs.Any8.slices_Grow_room L none 0 0 0 C.w (aC _) iA iA iA).mono ?_;rintro e w' ⟨rfl,rfl⟩;obtain⟨h1,_⟩:=hst.CY (id:=0) (t:=ρ.t 25) (e:=i0.size) hd;rw[hs]at h1;exact⟨_,.own i0.size 0 [],_,_,rfl,h1.inv,DQ (by simp[iS]),rfl,rfl⟩
 ·have hmb:m*i0.bytes<=140737488355328:=by
   have:((m*i0.bytes:Nat):Int)<=140737488355328:=by simpa using hb
   omega
  have hm47:m<=140737488355328:=cB (c_ _ hb0) hmb;refine(Go.Proofs.Any8.slices_Grow_grow L i0 z hi0 hz0 hs0 none 0 0 m [] C.w (aC _) iA (by simpa using hmb) iA (by simp) (by simp) (by simp)).mono ?_;rintro e w' ⟨rfl,rfl⟩;have hcap1:=grownCap_ge C.w (0+m) 0 (ρ.t 25);have hcap2:=fj C.w (0+m) 0 (ρ.t 25) (by unfold Go.maxLen;omega);obtain⟨β',h1,h2⟩:=AX hst.drew (id:=0) (t:=ρ.t 25) (e:=i0.size) (n:=0) (cap:=grownCap C.w (0+m) 0 (ρ.t 25))
   (c:=([]:List Value).toArray++Builtin.zeroCells z.cells (0+m-0)++Builtin.zeroCells z.cells (grownCap C.w (0+m) 0 (ρ.t 25)-(0+m))) (xs:=[])
   (by have:=hst.inv.obs 0;rw[hd]at this;rw[show C.β 0=.no from this];trivial)
   (by
    rw[ee,ee,fQ,fQ,hz1];simp only[dK,bH,bU,Nat.sub_zero];rw[<-bZ];congr 1;simp only[bU]at hcap1;omega)
   (cS _) (by unfold Go.maxLen at hcap2;omega)
   (fun v hv=>by
    simp only[Array.toList_append,aG]at hv;rcases hv with(hv|hv)|hv
    ·simp at hv
    ·exact u_ hz2 _ v hv
    ·exact u_ hz2 _ v hv)
   rfl (fun _ _ _ _=>by simp[D.row])
  rw[hs]at h1 h2;exact⟨_,.own i0.size 0 [],β',_,rfl,h1.inv,h2,rfl,rfl⟩
end oq
