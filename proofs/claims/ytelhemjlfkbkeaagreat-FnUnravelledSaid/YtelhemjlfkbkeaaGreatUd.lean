/- A part of the proof about FnUnravelled (LaShal, LaLend, LaDeep, LaSplit, LaThaw, LaPriv, LaNm, LaPc, Grow). -/
import Derived.Test.YtelhemjlfkbkeaaGreatUc
import Derived.KernelRfl
import Derived.Shelf.Spec.SlicesGrow
set_option linter.all false
noncomputable section
namespace oe
open Go
def DL(x y:D):Prop:=∀O w v,D.ok O w x v->D.ok O w y v
def Uf:List D->List D->Prop
 |[],[]=>True
 |x::xs,y::ys=>DL x y/\Uf xs ys
 |_,_=>False
theorem DL.refl(x:D):DL x x:=fun _ _ _ h=>h
theorem DL.forget{e:Nat}{nl:Option Bool}{xs:List D}:DL (.sl e nl xs) (.sl e none xs):=fun _ _ _ h=>by
 simp only[D.ok]at h⊢;obtain⟨a,cap,h1,h2,_,h4⟩:=h;exact⟨a,cap,h1,h2,trivial,h4⟩
theorem DL.nil{e e':Nat}{nl:Option Bool}:DL (.sl e nl []) (.sl e' none []):=fun _ _ _ h=>by
 simp only[D.ok]at h⊢;obtain⟨a,cap,h1,h2,_,h4⟩:=h;exact⟨a,cap,h1,h2,trivial,by simp⟩
theorem Uf.iK{O:Own}{w:World}:∀{xs ys:List D}{vs:List Value},Uf xs ys->D.iK O w xs vs->D.iK O w ys vs
 |[],[],_,_,h=>h
 |_::_,_::_,_,hl,h=>by
  simp only[D.iK]at h⊢;obtain⟨v,r,h1,h2,h3,h4⟩:=h;exact⟨v,r,h1,h2,hl.1 _ _ _ h3,Uf.iK hl.2 h4⟩
 |[],_::_,_,hl,_=>hl.elim
 |_::_,[],_,hl,_=>hl.elim
theorem DL.agg{xs ys:List D}(h:Uf xs ys):DL (.agg xs) (.agg ys):=fun _ _ _ hv=>by
 simp only[D.ok]at hv⊢;obtain⟨vs,h1,h2⟩:=hv;exact⟨vs,h1,h.iK h2⟩
theorem AV.wT{x y:D}(h:DL x y):AV.le (.d x) (.d y):=fun _ _ _ _ hv=>by simp only[AV.ok]at hv⊢;exact h _ _ _ hv
theorem AV.R6{e id:Nat}{xs:List D}{y:D}(h:DL (.sl e none xs) y):AV.le (.own e id xs) (.d y):=fun _ _ _ _ hv=>by simp only[AV.ok]at hv⊢;exact h _ _ _ hv.1
theorem AV.Az{xs ys:List AV}(h:jr xs ys):AV.le (.agg xs) (.agg ys):=fun _ _ _ _ hv=>by
 simp only[AV.ok]at hv⊢;obtain⟨vs,h1,h2,h3⟩:=hv;exact⟨vs,h1,h2,h.iK h3⟩
theorem Bp{β:gZ}{O:Own}{w:World}:∀{ys:List D}{vs:List Value},(∀u∈vs,one u=true)->AV.iK β O w (ys.map .d) vs->D.iK O w ys vs
 |[],_,_,h=>by simpa[AV.iK,D.iK]using h
 |y::ys,vs,h1,h=>by
  simp only[aT,AV.iK,D.iK]at h⊢;obtain⟨v,r,rfl,h2,h3⟩:=h;exact⟨v,r,rfl,h1 v (by simp),by simpa[AV.ok]using h2,Bp (fun u hu=>h1 u (by simp[hu])) h3⟩
theorem AV.xp{xs:List AV}{ys:List D}(h:jr xs (ys.map .d)):AV.le (.agg xs) (.d (.agg ys)):=fun _ _ _ _ hv=>by
 simp only[AV.ok,D.ok]at hv⊢;obtain⟨vs,h1,h2,h3⟩:=hv;exact⟨vs,h1,Bp h2 (h.iK h3)⟩
theorem AV.zx{xs ys:List AV}(h:jr xs ys):AV.le (.oz xs) (.oz ys):=fun _ _ _ _ hv=>by
 simp only[AV.ok]at hv⊢;obtain⟨vs,h1,h3⟩:=hv;exact⟨vs,h1,h.iK h3⟩
theorem JN{e e':Nat}{nl:Option Bool}:AV.le (.d (.sl e nl [])) (.d (.sl e' none []))<->True:=⟨fun _=>trivial,fun _=>AV.wT DL.nil⟩
theorem G5(x:D):DL x x<->True:=⟨fun _=>trivial,fun _=>DL.refl x⟩
theorem I0{e e':Nat}{nl:Option Bool}:DL (.sl e nl []) (.sl e' none [])<->True:=⟨fun _=>trivial,fun _=>DL.nil⟩
theorem Mz{xs:List AV}{ys:List D}(h:jr xs (ys.map .d)):AV.le (.agg xs) (.d (.agg ys))<->True:=⟨fun _=>trivial,fun _=>AV.xp h⟩
theorem O1{xs ys:List AV}(h:jr xs ys):AV.le (.oz xs) (.oz ys)<->True:=⟨fun _=>trivial,fun _=>AV.zx h⟩
def YC(x y:AV):Prop:=x=y\/((∀d,x≠ .dp d)/\(∀d,y≠ .dp d)/\AV.le x y)\/∃e0 e,x=.d (.sl e0 (some true) [])/\y=.dp (.sl e none [])
def yX:List AV->List AV->Prop
 |[],[]=>True
 |x::xs,y::ys=>YC x y/\yX xs ys
 |_,_=>False
theorem yX.refl:∀xs:List AV,yX xs xs
 |[]=>trivial
 |x::xs=>⟨.inl rfl,yX.refl xs⟩
theorem yX.length:∀{xs ys:List AV},yX xs ys->xs.length=ys.length
 |[],[]=>fun _=>rfl
 |x::xs,y::ys=>fun h=>by simp[yX.length h.2]
 |[],_::_=>fun h=>h.elim
 |_::_,[]=>fun h=>h.elim
theorem YC.nx{β:gZ}{O:Own}{w:World}{x y:AV}{v:Value}{bs:List Nat}(h:YC x y)(hx:NX β O w x v bs):NX β O w y v bs:=by
 rcases h with rfl|⟨h1,h2,h3⟩|⟨e0,e,rfl,rfl⟩
 ·exact hx
 ·exact hx.imp (x':=y) (fun _ _=>rfl) (.inr ⟨h1,h2,h3 _ _ _ _⟩)
 ·obtain⟨h1,h2⟩:=hx;have h1:AV.ok β O w (.d (.sl e0 (some true) [])) v:=h1;simp only[AV.ok,D.ok]at h1;obtain⟨a,cap,h3,h4,⟨rfl,rfl⟩,_⟩:=h1;show NV w (.sl e none []) v bs;simp only[NV];exact⟨none,0,h3,h4,trivial,.inl ⟨rfl,trivial,h2⟩⟩
theorem yX.nxs{β:gZ}{O:Own}{w:World}:∀{xs ys:List AV}{vs:List Value}{bs:List Nat},yX xs ys->oT β O w xs vs bs->oT β O w ys vs bs
 |[],[]=>fun _ h=>h
 |x::xs,y::ys=>fun hl h=>by
  simp only[oT]at h⊢;obtain⟨v,r,b1,b2,h1,h2,h3,h4⟩:=h;exact⟨v,r,b1,b2,h1,h2,hl.1.nx h3,yX.nxs hl.2 h4⟩
 |[],_::_=>fun h=>h.elim
 |_::_,[]=>fun h=>h.elim
def QE:List (Lit×D)->List (Lit×D)->Prop
 |[],[]=>True
 |(k,x)::r,(k',y)::r'=>k=k'/\AV.le (.d x) (.d y)/\QE r r'
 |_,_=>False
theorem QE.refl:∀es:List (Lit×D),QE es es
 |[]=>trivial
 |(_,_)::r=>⟨rfl,fun _ _ _ _ h=>h,QE.refl r⟩
theorem QE.get{kl:Lit}:∀{es es':List (Lit×D)},QE es es'->(tZ es kl=none/\tZ es' kl=none)\/∃x y,tZ es kl=some x/\tZ es' kl=some y/\AV.le (.d x) (.d y)
 |[],[],_=>.inl ⟨rfl,rfl⟩
 |(k,x)::r,(k',y)::r',h=>by
  obtain⟨rfl,h1,h2⟩:=h;unfold tZ;by_cases hk:k=kl
  ·simp only[hk,aj];exact .inr ⟨x,y,rfl,rfl,h1⟩
  ·simp only[hk,ay];exact h2.get
 |[],_::_,h=>h.elim
 |_::_,[],h=>h.elim
theorem QE.ok{O:Own}{w:World}{P:Program}{k b:Nat}{es es':List (Lit×D)}(h:QE es es')(hm:yQ O w P k es b):yQ O w P k es' b:=by
 obtain⟨E,h1,h2⟩:=hm;refine⟨E,h1,fun kl=>?_⟩;have h3:=h2 kl;rcases h.get (kl:=kl)with⟨e1,e2⟩|⟨x,y,e1,e2,e3⟩
 ·rw[e1]at h3;rw[e2];exact h3
 ·rw[e1]at h3;rw[e2];obtain⟨v,k1,k2,k3⟩:=h3;exact⟨v,k1,k2,by have:=e3 (fun _=>.no) O w v (by simpa only[AV.ok]using k3);simpa only[AV.ok]using this⟩
def yp:Ob->Ob->Prop
 |.dead,.dead=>True
 |.obj t cs,.obj t' cs'=>t=t'/\jr cs cs'
 |.tok t e n,.tok t' e' n'=>t=t'/\e=e'/\n=n'
 |.lO t e n cs,.lO t' e' n' cs'=>t=t'/\e=e'/\n=n'/\jr (cs.map .d) (cs'.map .d)
 |.jj t e n cs,.jj t' e' n' cs'=>t=t'/\e=e'/\n=n'/\yX cs cs'
 |.oU e n cs,.oU e' n' cs'=>e=e'/\n=n'/\yX cs cs'
 |.mp P k es,.mp P' k' es'=>P=P'/\k=k'/\QE es es'
 |_,_=>False
def oN:gQ->gQ->Prop
 |[],[]=>True
 |(i,x)::r,(j,y)::r'=>i=j/\yp x y/\oN r r'
 |_,_=>False
theorem oN.sat:∀{s s':gQ},oN s s'->∀id,yp (oe.sat s id) (oe.sat s' id)
 |[],[],_,_=>trivial
 |(i,x)::r,(j,y)::r',h,id=>by
  obtain⟨rfl,h1,h2⟩:=h;simp only[oe.sat];split
  ·exact h1
  ·exact h2.sat id
 |[],_::_,h,_=>h.elim
 |_::_,[],h,_=>h.elim
theorem jr.RI{O:Own}{w:World}:∀{xs ys:List D}{vs:List Value},jr (xs.map .d) (ys.map .d)->D.iK O w xs vs->D.iK O w ys vs
 |[],[],_,_,h=>h
 |x::xs,y::ys,_,hl,h=>by
  simp only[D.iK]at h⊢;obtain⟨v,r,h1,h0,h2,h3⟩:=h;refine⟨v,r,h1,h0,?_,jr.RI hl.2 h3⟩;have:=hl.1 (fun _=>.no) O w v (by simpa only[AV.ok]using h2);simpa only[AV.ok]using this
 |[],_::_,_,hl,_=>hl.elim
 |_::_,[],_,hl,_=>hl.elim
theorem jr.length':∀{xs ys:List D},jr (xs.map .d) (ys.map .d)->xs.length=ys.length
 |[],[],_=>rfl
 |x::xs,y::ys,hl=>by simp[jr.length' hl.2]
 |[],_::_,hl=>hl.elim
 |_::_,[],hl=>hl.elim
theorem Inv.told{C:Ctx}{β:gZ}{s s':gQ}{w:World}(h:Inv C β s w)(hs:∀id,yp (sat s id) (sat s' id)):Inv C β s' w/\C.gO β s'=C.gO β s:=by
 have hown:∀b x,own β s' b x<->own β s b x:=fun b x=>by
  unfold own;refine eS fun id=>?_
  have:=hs id;revert this;cases sat s id<;>cases sat s' id<;>intro h1<;>first|exact h1.elim|exact cN|skip
  ·obtain⟨_,rfl,rfl⟩:=h1;exact cN
  ·obtain⟨_,rfl,rfl,_⟩:=h1;exact cN
  ·obtain⟨_,rfl,rfl,_⟩:=h1;exact cN
  ·obtain⟨rfl,rfl,_⟩:=h1;exact cN
 have hblk:∀id b,gy β s' id b<->gy β s id b:=fun id b=>by
  unfold gy;have:=hs id;revert this;cases sat s id<;>cases sat s' id<;>intro h1<;>first|exact h1.elim|exact cN|skip
  ·obtain⟨_,rfl,rfl⟩:=h1;exact cN
  ·obtain⟨_,rfl,rfl,_⟩:=h1;exact cN
  ·obtain⟨_,rfl,rfl,_⟩:=h1;exact cN
  ·obtain⟨rfl,rfl,_⟩:=h1;exact cN
 have hf:C.gO β s'=C.gO β s:=by funext b o;exact propext (or_congr cN (hown b o))
 refine⟨⟨h.size,h.io,h.keep,h.vr,fun b o ho=>h.sK b o ((hown b o).1 ho),fun id b hb=>h.uW id b ((hblk id b).1 hb),h.pl,h.low,fun id=>?_,
  fun i j b hi hj=>h.inj i j b ((hblk i b).1 hi) ((hblk j b).1 hj)⟩,hf⟩
 rw[hf];have h1:=h.obs id;have h2:=hs id;revert h1 h2;cases sat s id<;>cases sat s' id<;>intro h1 h2<;>first|exact h2.elim|exact h1|skip
 ·obtain⟨rfl,h2⟩:=h2;obtain⟨b,vs,h3,h4,h5,h6⟩:=h1;exact⟨b,vs,h3,h4,h5,h6.imp fun _ h=>h2.iK h⟩
 ·obtain⟨rfl,rfl,rfl⟩:=h2;exact h1
 ·obtain⟨rfl,rfl,rfl,h2⟩:=h2;obtain⟨u,h3,h4,h5⟩:=h1;refine⟨u,h3,h2.length'▸h4,?_⟩;rcases h5 with h5|⟨b,cap,vs,k1,k2,k3,k4,k5,k6,pre,rest,k7,k8⟩
  ·exact .inl h5
  ·exact .inr ⟨b,cap,vs,k1,k2,k3,k4,k5,k6,pre,rest,k7,h2.RI k8⟩
 ·obtain⟨rfl,rfl,rfl,h2⟩:=h2;obtain⟨u,bs,h3,h4,h5,h6⟩:=h1;refine⟨u,bs,h3,h4,h2.length▸h5,?_⟩;rcases h6 with h6|⟨b,cap,vs,k1,k2,k3,k4,k5,k6,k7,k8⟩
  ·exact .inl h6
  ·exact .inr ⟨b,cap,vs,k1,k2,k3,k4,k5,k6,k7,h2.nxs k8⟩
 ·obtain⟨rfl,rfl,h2⟩:=h2;obtain⟨u,bs,h3,h4,h5,h6⟩:=h1;refine⟨u,bs,h3,h4,h2.length▸h5,?_⟩;rcases h6 with h6|⟨b,cap,vs,t,k1,k2,k3,k4,k5,k6,k9,k7,k8⟩
  ·exact .inl h6
  ·exact .inr ⟨b,cap,vs,t,k1,k2,k3,k4,k5,k6,k9,k7,h2.nxs k8⟩
 ·obtain⟨rfl,rfl,h2⟩:=h2;obtain⟨b,h3,h4⟩:=h1;exact⟨b,h3,h2.ok h4⟩
theorem iB.Z9{k:Nat}{env env':List AV}{s s':gQ}(h:jr env env')(hs:oN s s'):iB k env s env' s':=fun C β a w hC hst=>by
 obtain⟨h1,hf⟩:=hst.inv.told hs.sat;obtain⟨h3,h4⟩:=h.get;exact⟨β,hst.defers,h1,by rw[hst.len,h3],fun i y hy=>by rw[hf];exact let⟨x,hx,hle⟩:=h4 i y hy;hle _ _ _ _ (hst.env i x hx)⟩
def jv(id:Nat):gQ->gQ
 |[]=>[]
 |(j,x)::r=>if j=id then jv id r else(j,x.kill id)::jv id r
theorem Bx(id j:Nat):∀s:gQ,sat (jv id s) j=sat (gS id s) j
 |[]=>rfl
 |(i,x)::r=>by
  simp only[jv,gS];by_cases h:i=id
  ·subst h;simp only[aj,sat,Bx i j r];split
   ·rename_i h2;subst h2;rw[sd];simp
   ·rfl
  ·simp only[h,ay,sat,Bx id j r]
theorem iB.drop{k:Nat}{env:List AV}{s:gQ}(id:Nat)(hid:k<=id):iB k env s (AV.gY (gC id) env) (jv id s):=
 (iB.kill id hid).trans (iB.Yn fun j=>(Bx id j s).symm)
theorem sV.mono{P:Program}{k:Nat}{mc:gR}{Q Q':Post}{env:List AV}{s:gQ}(h:sV P k mc Q env s)(hq:∀e env s,Q e env s->Q' e env s):sV P k mc Q' env s:=
 fun C hC hf c hc β a w hst=>e_ (h C hC hf c hc β a w hst) fun e _ _ ⟨C',hx,β',env',s',h1,h2⟩=>⟨C',hx,β',env',s',h1,hq e env' s' h2⟩
def xL(P:Program)(k:Nat):gR->Post->List AV->gQ->Prop
 |.skip,Q,env,s=>Q .normal env s
 |.gz ms,Q,env,s=>zb P k (Q .normal) ms env s
 |.draw ms af,Q,env,s=>P.follows .mixedOrders=true/\yK P k (EZ ms af Q) ms [] env s
 |.seq a b,Q,env,s=>xL P k a (CF (fun env s=>xL P k b Q env s) Q) env s
 |.cond o a b,Q,env,s=>match ev env o with
  |.d (.lit (.bool t))=>if t=true then xL P k a Q env s else xL P k b Q env s
  |_=>False
 |.block id a,Q,env,s=>xL P k a (Dh id Q) env s
 |.loop x,Q,env,s=>sV P k (.loop x) Q env s
 |.exit id,Q,env,s=>Q (.exit id) env s
 |.ret,Q,env,s=>Q .ret env s
 |.dead,_,_,_=>False
 |.ghost x,Q,env,s=>∃env' s',iB k env s env' s'/\sV P k x Q env' s'
 |.U4 g ps a b,Q,env,s=>sV P k (.U4 g ps a b) Q env s
 |.scope a,Q,env,s=>xL P k a (TV Q) env s
 |.label,Q,env,s=>Q .normal env s
theorem gv{P:Program}{k:Nat}:∀{mc:gR}{Q:Post}{env:List AV}{s:gQ},xL P k mc Q env s->sV P k mc Q env s
 |.skip,_,_,_,h=>UO h
 |.gz _,_,_,_,h=>aac h
 |.draw _ _,_,_,_,h=>Ww h.1 h.2
 |.seq a b,Q,env,s,h=>Wz (sV.mono (gv (mc:=a) h) fun e env s hq=>by
  cases e with
  |normal=>exact gv (mc:=b) hq
  |_=>exact hq)
 |.cond o a b,Q,env,s,h=>by
  simp only[xL]at h;split at h
  ·rename_i t ht;refine UK ht ?_;unfold Br;split at h
   ·rename_i hb;rw[aE hb];exact gv (mc:=a) h
   ·rename_i hb;rw[aJ hb];exact gv (mc:=b) h
  ·exact h.elim
 |.block id a,_,_,_,h=>Sa (gv (mc:=a) h)
 |.loop x,_,_,_,h=>h
 |.exit id,_,_,_,h=>UM h
 |.ret,_,_,_,h=>Wy h
 |.dead,_,_,_,h=>h.elim
 |.ghost x,_,_,_,h=>let⟨_,_,hw,h⟩:=h;Sb hw h
 |.U4 _ _ _ _,_,_,_,h=>h
 |.scope x,_,_,_,h=>Se (gv (mc:=x) h)
 |.label,_,_,_,h=>Sc h
def pO(P:Program)(k:Nat)(x:gR)(Q:Post)(env:List AV)(s:gQ):Prop:=∃env' s',iB k env s env' s'/\sV P k x Q env' s'
theorem pO.of{P:Program}{k:Nat}{x:gR}{Q:Post}{env env':List AV}{s s':gQ}(hw:iB k env s env' s')(h:xL P k x Q env' s'):pO P k x Q env s:=⟨_,_,hw,gv h⟩
def Er(P:Program)(k:Nat)(b:Bool)(x y:gR)(Q:Post)(env:List AV)(s:gQ):Prop:=if b=true then xL P k x Q env s else xL P k y Q env s
def Ks(P:Program)(k:Nat)(x y:gR)(Q:Post)(env:List AV)(s:gQ):AV->Prop
 |.d (.lit (.bool b))=>Er P k b x y Q env s
 |_=>False
section
variable{P:Program}{k:Nat}{Q:Post}{env env':List AV}{s s':gQ}{x y mc:gR}{b:Bool}
theorem Qz:xL P k .skip Q env s=Q .normal env s:=(rfl)
theorem SR{ms:List js}:xL P k (.gz ms) Q env s=zb P k (Q .normal) ms env s:=(rfl)
theorem Qw{ms:List js}{af:List gh}:xL P k (.draw ms af) Q env s=(P.follows .mixedOrders=true/\yK P k (EZ ms af Q) ms [] env s):=(rfl)
theorem SU:xL P k (.seq x y) Q env s=xL P k x (CF (xL P k y Q) Q) env s:=(rfl)
theorem M5{id:Nat}:xL P k (.block id x) Q env s=xL P k x (Dh id Q) env s:=(rfl)
theorem Qy:xL P k (.loop x) Q env s=sV P k (.loop x) Q env s:=(rfl)
theorem M6:xL P k (.ghost x) Q env s=pO P k x Q env s:=(rfl)
theorem Qx{id:Nat}:xL P k (.exit id) Q env s=Q (.exit id) env s:=(rfl)
theorem SS:xL P k .ret Q env s=Q .ret env s:=(rfl)
theorem Qv{o:Operand}:xL P k (.cond o x y) Q env s=Ks P k x y Q env s (ev env o):=by
 simp only[xL];split
 ·rename_i b h;rw[h];rfl
 ·rename_i h;unfold Ks;split
  ·rename_i b h2;exact absurd h2 (h b)
  ·rfl
theorem VH:Er P k true x y Q env s=xL P k x Q env s:=by simp[Er]
theorem VG:Er P k false x y Q env s=xL P k y Q env s:=by simp[Er]
end
section
variable{P:Program}{k k0:Nat}{Q:Post}{K:List AV->gQ->Prop}{env env':List AV}{s s':gQ}{x y mc:gR}{b b' want:Bool}{m:tM}{d:Option Nat}{ms:List js}
 {F:List (List Nat×List Nat)->List AV->gQ->Prop} {acc acc':List (List Nat×List Nat)} {foot foot':List Nat}
@[congr] theorem VF (he:env=env')(hs:s=s'):xL P k mc Q env s=xL P k mc Q env' s':=by rw[he,hs]
@[congr] theorem VC (he:env=env')(hs:s=s'):sV P k mc Q env s=sV P k mc Q env' s':=by rw[he,hs]
@[congr] theorem Vy (hb:b=b'):Er P k b x y Q env s=Er P k b' x y Q env s:=by rw[hb]
@[congr] theorem Vw {R:List AV->gQ->Prop}{o o':Out}(h:o=o'):oW P k0 R d o=oW P k0 R d o':=by rw[h]
@[congr] theorem Vz (hb:b=b'):CG P k0 K b want m d ms env s=CG P k0 K b' want m d ms env s:=by rw[hb]
@[congr] theorem Th {R:List AV->gQ->Prop}{f:Nat}{args args':List AV}(ha:args=args')(he:env=env')(hs:s=s'):
 pT P k0 f args env s d R=pT P k0 f args' env' s' d R:=by rw[ha,he,hs]
@[congr] theorem T5 {o o':qO}(hf:foot=foot')(h:o=o'):pM P k0 F ms acc foot d env s o=pM P k0 F ms acc foot' d env s o':=by rw[h,hf]
@[congr] theorem VA (hb:b=b'):Cg P k0 F b want m d ms acc env s=Cg P k0 F b' want m d ms acc env s:=by rw[hb]
@[congr] theorem Tf {f:Nat}{args args':List AV}(ha:args=args'):rE P k0 F ms acc foot d env s f args=rE P k0 F ms acc foot d env s f args':=by rw[ha]
@[congr] theorem VD {af:List gh}(ha:acc=acc')(he:env=env')(hs:s=s'):EZ ms af Q acc env s=EZ ms af Q acc' env' s':=by rw[ha,he,hs]
end
theorem Oq{P:Program}{k0 f:Nat}{args env:List AV}{s:gQ}{d:Option Nat}{R:List AV->gQ->Prop}{dz:List D}{r:D}(hc:lz P f dz r)
 (ha:jr (args.map fun x=>x.hG (pV [])) (dz.map .d)) (hk:R (iU d env (.d r)) s):pT P k0 f args env s d R:=zJ (Ht ha hc hk)
theorem L8{P:Program}{k0 f:Nat}{args env:List AV}{s:gQ}{d:Option Nat}{R:List AV->gQ->Prop}{dz:List D}{rs:List D}(hc:ki P f dz rs)
 (ha:jr (args.map fun x=>x.hG (pV [])) (dz.map .d)) (hk:R (iU d env (.oz (rs.map .d))) s):pT P k0 f args env s d R:=zJ (ET ha hc hk)
theorem Oo{P:Program}{k0:Nat}{F:List (List Nat×List Nat)->List AV->gQ->Prop}{ms:List js}{acc:List (List Nat×List Nat)}{foot:List Nat}{d:Option Nat}{env:List AV}{s:gQ}
 {f:Nat} {args:List AV} {dz:List D} {r:D} (hc:lz P f dz r) (ha:jr (args.map fun x=>x.hG (pV [])) (dz.map .d))
 (hk:yK P k0 F ms ((foot,[])::acc) (iU d env (.d r)) s):rE P k0 F ms acc foot d env s f args:=.inl ⟨_,ha,.inl ⟨r,hc,hk⟩⟩
theorem L7{P:Program}{k0:Nat}{F:List (List Nat×List Nat)->List AV->gQ->Prop}{ms:List js}{acc:List (List Nat×List Nat)}{foot:List Nat}{d:Option Nat}{env:List AV}{s:gQ}
 {f:Nat} {args:List AV} {dz rs:List D} (hc:ki P f dz rs) (ha:jr (args.map fun x=>x.hG (pV [])) (dz.map .d))
 (hk:yK P k0 F ms ((foot,[])::acc) (iU d env (.oz (rs.map .d))) s):rE P k0 F ms acc foot d env s f args:=.inl ⟨_,ha,.inr ⟨rs,hc,hk⟩⟩
theorem lE.jO{P:Program}{f:Nat}{mc:gR}{n:Nat}{rs:List wE}(h:lE P f mc n rs){args:List D}{r:D}
 (hm:sV P 0 mc (Dx rs fun x _=>AV.le x (.d r)) (args.map .d++List.replicate (n-(args.map AV.d).length) .iN) []):lz P f args r:=
 (h.calls hm).mono fun _ _ hx=>⟨_,hx,rfl⟩
theorem lE.mK{P:Program}{f:Nat}{mc:gR}{n:Nat}{rs:List wE}(h:lE P f mc n rs){args:List D}{ds:List D}
 (hm:sV P 0 mc (Dx rs fun x _=>AV.le x (.oz (ds.map .d))) (args.map .d++List.replicate (n-(args.map AV.d).length) .iN) []):ki P f args ds:=
 (h.calls hm).mono fun _ _ hx=>⟨_,hx,rfl⟩
def xd{σ β:Type}(f:σ->Option (σ⊕β)):Nat->σ->β->Prop
 |0,_,_=>False
 |n+1,s,b=>f s=some (.inr b)\/∃s',f s=some (.inl s')/\xd f n s' b
theorem xd.det{σ β:Type}{f:σ->Option (σ⊕β)}:∀{n m:Nat}{s:σ}{b c:β},xd f n s b->xd f m s c->b=c
 |0,_,_,_,_,h,_=>h.elim
 |_+1,0,_,_,_,_,h=>h.elim
 |n+1,m+1,s,b,c,h1,h2=>by
  rcases h1 with h1|⟨s1,h1,h3⟩<;>rcases h2 with h2|⟨s2,h2,h4⟩<;>rw[h1]at h2<;>cases h2
  ·rfl
  ·exact xd.det h3 h4
open Classical in
def gI{σ β:Type}(f:σ->Option (σ⊕β))(s:σ):Option β:=if h:∃b n,xd f n s b then some (choose h)else none
theorem tf{σ β:Type}{f:σ->Option (σ⊕β)}{s:σ}{b:β}(h:gI f s=some b):∃n,xd f n s b:=by
 unfold gI at h;split at h
 ·rename_i hx;cases h;exact ef hx
 ·cases h
theorem xd.gI{σ β:Type}{f:σ->Option (σ⊕β)}{n:Nat}{s:σ}{b:β}(h:xd f n s b):gI f s=some b:=by
 have hx:∃b n,xd f n s b:=⟨b,n,h⟩;unfold oe.gI;rw[dif_pos hx];obtain⟨m,hm⟩:=ef hx;rw[hm.det h]
theorem hU{σ β:Type}{f:σ->Option (σ⊕β)}{s:σ}{b:β}(h:f s=some (.inr b)):gI f s=some b:=xd.gI (n:=1) (.inl h)
theorem jN{σ β:Type}{f:σ->Option (σ⊕β)}{s s':σ}(h:f s=some (.inl s')):gI f s=gI f s':=by
 cases hx:gI f s' with
 |some b=>obtain⟨n,hn⟩:=tf hx;exact xd.gI (n:=n+1) (.inr ⟨s',h,hn⟩)
 |none=>
  cases hy:gI f s with
  |none=>rfl
  |some b=>
   obtain⟨n,hn⟩:=tf hy;cases n with
   |zero=>exact hn.elim
   |succ n=>
    rcases hn with hn|⟨s2,h2,h3⟩
    ·rw[h]at hn;cases hn
    ·rw[h]at h2;cases h2;rw[h3.gI]at hx;cases hx
theorem rZ{P:Program}{k:Nat}{Q:Post}{env:List AV}{s:gQ}{x:gR}{σ β:Type}{f:σ->Option (σ⊕β)}{s0:σ}{b:β}(hb:gI f s0=some b)
 (ws:List Nat) (vs:σ->List (Nat×AV)) (S:σ->gQ) (hw:iB k env s (vR (sW env ws) (vs s0)) (S s0))
 (round:∀p t,f p=some t->(∀b',t=.inr b'->b'=b)->sV P k x (CF (fun env' s'=>∃p',t=.inl p'/\iB k env' s' (vR (sW env ws) (vs p')) (S p')) Q)
  (vR (sW env ws) (vs p)) (S p)):sV P k (.loop x) Q env s:=by
 obtain⟨n,hn⟩:=tf hb;refine Sd ws (fun p:Nat×σ=>vs p.2) (fun p=>S p.2) (fun p=>xd f p.1 p.2 b) (·.1) (n,s0) hn hw ?_;rintro⟨m,p⟩ hm;cases m with
 |zero=>exact hm.elim
 |succ m=>
  rcases hm with hm|⟨p',hm,hr⟩
  ·refine(round p _ hm fun b' hb'=>by cases hb';rfl).mono fun e env s hq=>?_
   cases e with
   |normal=>obtain⟨p',hp,_⟩:=hq;cases hp
   |_=>exact hq
  ·refine(round p _ hm fun b' hb'=>by cases hb').mono fun e env s hq=>?_
   cases e with
   |normal=>obtain⟨p2,hp,hw⟩:=hq;cases hp;exact⟨(m,p'),hr,Nat.lt_succ_self m,hw⟩
   |_=>exact hq
theorem uV{α:Type}{p:Prop}[Decidable p]{a:Option α}{r:α}(h:(if p then a else none)=some r):p/\a=some r:=by
 split at h
 ·rename_i hp;exact⟨hp,h⟩
 ·cases h
theorem DI{α:Type}{c:Bool}{a b:Option α}{r:α}(h:(if c=true then a else b)=some r):(c=true/\a=some r)\/(c=false/\b=some r):=by
 cases c with
 |true=>exact .inl ⟨rfl,by simpa using h⟩
 |false=>exact .inr ⟨rfl,by simpa using h⟩
theorem bind_some{α β:Type}{x:Option α}{K:α->Option β}{r:β}(h:x.bind K=some r):∃a,x=some a/\K a=some r:=ai.1 h
theorem g_{σ β:Type}{x:Option β}{t:σ⊕β}{b:β}(h:x.map Sum.inr=some t)(hb:∀b',t=.inr b'->b'=b):x=some b:=by
 cases x with
 |none=>cases h
 |some c=>cases h;rw[hb c rfl]
open Classical in
def LQ{α β:Type}(xs:List α)(a b:Option β):Option β:=if xs=[]then(if a=b then b else none)else b
theorem Hh{α β:Type}{xs:List α}{a b:Option β}{r:β}(h:LQ xs a b=some r):(xs=[]->a=some r)/\b=some r:=by
 unfold LQ at h;split at h
 ·split at h
  ·rename_i h1;exact⟨fun _=>h1.trans h,h⟩
  ·cases h
 ·rename_i hx;exact⟨fun he=>absurd he hx,h⟩
open Classical in
def AA{α:Type}(f:Nat->Option α):Option α:=if h:∃a n,f n=some a then some (choose h)else none
theorem rY{α:Type}{f:Nat->Option α}{a:α}(h:AA f=some a):∃n,f n=some a:=by
 unfold AA at h;split at h
 ·rename_i hx;cases h;exact ef hx
 ·cases h
theorem R9{α:Type}{f:Nat->Option α}{a:α}(n:Nat)(h:f n=some a)(hu:∀m b,f m=some b->b=a):AA f=some a:=by
 have hx:∃a n,f n=some a:=⟨a,n,h⟩;unfold AA;rw[dif_pos hx];obtain⟨m,hm⟩:=ef hx;rw[hu m _ hm]
theorem uD{p q:Prop}(hp:p)(hq:q):p/\q:=⟨hp,hq⟩
def O9(n off:Nat)(ag:Bool)(K:AV->Prop):Ob->Prop
 |.obj _ cs=>off+n<=cs.length/\K (FC n off cs ag)
 |_=>False
theorem MB{n id off:Nat}{ag:Bool}{s:gQ}{K:AV->Prop}:sv n ag (.ptr id off) s K=O9 n off ag K (sat s id):=by
 simp only[sv];cases sat s id with
 |obj t cs=>cases ag<;>rfl
 |_=>rfl
attribute [go_sem] O9 MB
theorem Qp:AV.rf []=some []:=rfl
theorem M0{x:D}{xs:List AV}:AV.rf (.d x::xs)=(AV.rf xs).map (x::·):=rfl
theorem Qq{e id:Nat}{ys:List D}{xs:List AV}:AV.rf (.own e id ys::xs)=none:=rfl
theorem Qr{id off:Nat}{xs:List AV}:AV.rf (.ptr id off::xs)=none:=rfl
theorem Qo{e id off len:Nat}{xs:List AV}:AV.rf (.tS e id off len::xs)=none:=rfl
theorem SO{f:Nat}{a b xs:List AV}:AV.rf (.fn f a b::xs)=none:=rfl
theorem M3{xs:List AV}:AV.rf (.iN::xs)=none:=rfl
theorem Qm{ys xs:List AV}:AV.rf (.agg ys::xs)=none:=rfl
def mkO(cs:List AV):Option (List D)->AV
 |some ds=>.d (.agg ds)
 |none=>.agg cs
theorem UU:AV.mk []=.d (.agg []):=rfl
theorem Sg{x:AV}{xs:List AV}:AV.mk (x::xs)=mkO (x::xs) (AV.rf (x::xs)):=by unfold AV.mk;cases AV.rf (x::xs)<;>rfl
attribute [go_sem] Qp M0 Qq Qr Qo SO M3 Qm mkO UU Sg
theorem N0:NU (.pointer none)=.d (.lit (.pointer none)):=rfl
theorem NZ:NU (.map none)=.d (.lit (.map none)):=rfl
theorem Re:NU .nilFunc=.d (.lit .nilFunc):=rfl
theorem Um{k:IntKind}{n:Int}:cD (.int k n)=.lit (.int k n):=rfl
theorem Rh{b:Bool}:cD (.bool b)=.lit (.bool b):=rfl
theorem LY{b:ByteArray}:cD (.string b)=.lit (.string b):=rfl
theorem Un:cD (.slice none 0 0)=.sl 0 (some true) []:=rfl
theorem Rj:cD (.pointer none)=.lit (.pointer none):=rfl
theorem Ri:cD (.map none)=.lit (.map none):=rfl
theorem Ul:cD .nilFunc=.lit .nilFunc:=rfl
theorem Sq{k:IntKind}{n:Int}:one (.int k n)=true:=rfl
theorem PK{b:Bool}:one (.bool b)=true:=rfl
theorem J8{b:ByteArray}:one (.string b)=true:=rfl
theorem MN{a:Option Addr}{n c:Nat}:one (.slice a n c)=true:=rfl
theorem Ss{a:Option Addr}:one (.pointer a)=true:=rfl
theorem Sr{a:Option Nat}:one (.map a)=true:=rfl
theorem So:one .nilFunc=true:=rfl
attribute [go_sem] N0 NZ Re Um Rh LY Un Rj Ri Ul Sq PK J8 MN Ss Sr So List.all_cons List.all_nil Bool.and_self
abbrev kD(k:IntKind)(n:Int):D:=.lit (.int k n)
abbrev sD(b:ByteArray):D:=.lit (.string b)
def gN{α:Type}(e:Nat)(f:α->D)(xs:List α):D:=.sl e none (xs.map f)
theorem SJ{α:Type}{e:Nat}{f:α->D}{xs:List α}:rM (.d (gN e f xs))=some (e,xs.map f):=rfl
theorem Sk{α:Type}{e:Nat}{f:α->D}{xs:List α}:y_ (.d (gN e f xs))=none:=rfl
theorem Mg{α:Type}{e:Nat}{f:α->D}{xs:List α}:AV.cells (.d (gN e f xs))=some [.d (gN e f xs)]:=rfl
theorem I8{α:Type}{e:Nat}{f:α->D}{xs:List α}:AV.ni (.d (gN e f xs))=none:=rfl
theorem Jy{α:Type}{e:Nat}{f:α->D}{xs:List α}:gD (gN e f xs)=[gN e f xs]:=rfl
theorem getD_map'{α:Type}[Inhabited α]{f:α->D}{l:List α}{i:Nat}{d:D}(h:i<l.length):(l.map f).getD i d=f (l.getD i default):=by simp[aB,bA,aA h]
attribute [go_sem] List.length_map List.length_append Option.map_some Option.map_none Option.bind_some and_self Nat.not_lt_zero Bool.not_true Bool.not_false List.forall_mem_cons List.not_mem_nil false_imp_iff implies_true getD_map' List.map_eq_nil_iff List.append_eq_nil_iff Int.toNat_natCast Ob.tok.injEq true_or or_true false_or or_false JN G5 I0 Mz O1 Uf oN yp jv
attribute [go_sem] M6 Qz SR Qw SU M5 Qy Qx SS Qv VH VG Ks SJ Sk Mg I8 Jy pV oA
theorem jr.refl:∀xs:List AV,jr xs xs
 |[]=>trivial
 |x::xs=>⟨AV.le_refl x,jr.refl xs⟩
theorem yp.refl:∀o:Ob,yp o o
 |.dead=>trivial
 |.obj _ cs=>⟨rfl,jr.refl cs⟩
 |.tok _ _ _=>⟨rfl,rfl,rfl⟩
 |.lO _ _ _ _=>⟨rfl,rfl,rfl,jr.refl _⟩
 |.jj _ _ _ _=>⟨rfl,rfl,rfl,yX.refl _⟩
 |.oU _ _ _=>⟨rfl,rfl,yX.refl _⟩
 |.mp _ _ _=>⟨rfl,rfl,QE.refl _⟩
theorem yc{β:gZ}{s s':gQ}(hs:∀id,yp (sat s id) (sat s' id))(b o:Nat):own β s' b o<->own β s b o:=by
 unfold own;refine eS fun id=>?_
 have:=hs id;revert this;cases sat s id<;>cases sat s' id<;>intro h1<;>first|exact h1.elim|exact cN|skip
 ·obtain⟨_,rfl,rfl⟩:=h1;exact cN
 ·obtain⟨_,rfl,rfl,_⟩:=h1;exact cN
 ·obtain⟨_,rfl,rfl,_⟩:=h1;exact cN
 ·obtain⟨rfl,rfl,_⟩:=h1;exact cN
theorem Bz{β:gZ}{s s':gQ}(hs:∀id,yp (sat s id) (sat s' id))(id b:Nat):gy β s' id b<->gy β s id b:=by
 unfold gy;have:=hs id;revert this;cases sat s id<;>cases sat s' id<;>intro h1<;>first|exact h1.elim|exact cN|skip
 ·obtain⟨_,rfl,rfl⟩:=h1;exact cN
 ·obtain⟨_,rfl,rfl,_⟩:=h1;exact cN
 ·obtain⟨_,rfl,rfl,_⟩:=h1;exact cN
 ·obtain⟨rfl,rfl,_⟩:=h1;exact cN
theorem Inv.ctx{C:Ctx}{s1:gQ}{β:gZ}{s:gQ}{w:World}(hs:∀id,yp (sat C.s id) (sat s1 id)):Inv C β s w<->Inv {C with s:=s1} β s w:=by
 constructor
 ·intro h;exact⟨h.size,h.io,fun b o v h1 h2=>h.keep b o v h1 fun h3=>h2 ((yc hs b o).2 h3),fun b h1 h2=>h.vr b h1 fun id h3=>h2 id ((Bz hs id b).2 h3),
   fun b o h1=>(h.sK b o h1).imp (fun h2=>(yc hs b o).2 h2) id,fun id b h1=>(h.uW id b h1).imp (fun⟨i,h2⟩=>⟨i,(Bz hs i b).2 h2⟩) (fun x=>x),h.pl,
   fun b o h1=>⟨(h.low b o h1).1,fun h2=>(h.low b o h1).2 ((yc hs b o).1 h2)⟩,h.obs,h.inj⟩
 ·intro h;exact⟨h.size,h.io,fun b o v h1 h2=>h.keep b o v h1 fun h3=>h2 ((yc hs b o).1 h3),fun b h1 h2=>h.vr b h1 fun id h3=>h2 id ((Bz hs id b).1 h3),
   fun b o h1=>(h.sK b o h1).imp (fun h2=>(yc hs b o).1 h2) id,fun id b h1=>(h.uW id b h1).imp (fun⟨i,h2⟩=>⟨i,(Bz hs i b).1 h2⟩) (fun x=>x),h.pl,
   fun b o h1=>⟨(h.low b o h1).1,fun h2=>(h.low b o h1).2 ((yc hs b o).2 h2)⟩,h.obs,h.inj⟩
theorem hY.Yn{P:Program}{f:Nat}{dz:List AV}{s s1:gQ}{k:Nat}{R:AV->gQ->Prop}(h:hY P f dz s1 k R)(hs:oN s s1):hY P f dz s k R:=fun C vs h1 h2 h3 h4=>by
 subst h1;have hs':=hs.sat;obtain⟨h5,h6⟩:=h3.told hs';refine(h {C with s:=s1} vs rfl h2 ((Inv.ctx hs').1 h5) (by
  show AV.iK C.β (Ctx.gO {C with s:=s1} C.β s1) C.w dz vs.toList;have:Ctx.gO {C with s:=s1} C.β s1=C.gO C.β C.s:=h6;rw[this];exact h4)).mono fun e w' ⟨v,x,β',s',e1,e2,e3,e4⟩=>⟨v,x,β',s',e1,(Inv.ctx hs').2 e2,e3,e4⟩
def gJ:List Nat->gQ->gQ
 |[],s=>s
 |i::r,s=>gJ r (jv i s)
def iA:List Nat->AV->AV
 |[],x=>x
 |i::r,x=>iA r (x.hG (gC i))
theorem Inv.drop{C:Ctx}{β:gZ}{s:gQ}{w:World}(h:Inv C β s w)(id:Nat)(hid:C.k<=id):∃β',Inv C β' (jv id s) w/\
 ∀x v,AV.ok β (C.gO β s) w x v->AV.ok β' (C.gO β' (jv id s)) w (x.hG (gC id)) v:=by
 have hs:∀j,yp (sat (gS id s) j) (sat (jv id s) j):=fun j=>by rw[Bx];exact .refl _
 obtain⟨h1,h2⟩:=(h.kill id hid).told hs;exact⟨_,h1,fun x v hx=>by rw[h2];exact xo hx⟩
theorem Inv.iP{C:Ctx}{w:World}:∀{ids:List Nat}{β:gZ}{s:gQ},Inv C β s w->(∀i∈ids,C.k<=i)->∃β',Inv C β' (gJ ids s) w/\
 ∀x v,AV.ok β (C.gO β s) w x v->AV.ok β' (C.gO β' (gJ ids s)) w (iA ids x) v
 |[],β,_,h,_=>⟨β,h,fun _ _ hx=>hx⟩
 |i::r,_,_,h,hi=>by
  obtain⟨β1,h1,h2⟩:=h.drop i (hi i (by simp));obtain⟨β2,h3,h4⟩:=h1.iP (ids:=r) fun j hj=>hi j (by simp[hj])
  exact⟨β2,h3,fun x v hx=>h4 _ _ (h2 _ _ hx)⟩
theorem hY.cut{P:Program}{f:Nat}{args:List AV}{s:gQ}{k:Nat}{y:AV}{t:gQ}
 (h:hY P f args s k fun x s'=>∃ids,(∀i∈ids,k<=i)/\AV.le (iA ids x) y/\oN (gJ ids s') t):hY P f args s k fun x s'=>x=y/\s'=t:=fun C vs h1 h2 h3 h4=>
 (h C vs h1 h2 h3 h4).mono fun e w' ⟨v,x,β',s',e1,e2,e3,ids,e4,e5,e6⟩=>by
  subst h2;obtain⟨β2,h5,h6⟩:=e2.iP e4;obtain⟨h7,h8⟩:=h5.told e6.sat;exact⟨v,y,β2,t,e1,h7,by rw[h8];exact e5 _ _ _ _ (h6 _ _ e3),rfl,rfl⟩
theorem lE.nN{P:Program}{f:Nat}{mc:gR}{n:Nat}{rs:List wE}(h:lE P f mc n rs){args:List AV}{s t:gQ}{k:Nat}{y:AV}
 (hm:sV P k mc (Dx rs fun x s'=>∃ids,(∀i∈ids,k<=i)/\AV.le (iA ids x) y/\oN (gJ ids s') t) (args++List.replicate (n-args.length) .iN) s):
 hY P f args s k fun x s'=>x=y/\s'=t:=hY.cut (h.calls hm)
theorem RF{P:Program}{k0 f:Nat}{args env:List AV}{s:gQ}{d:Option Nat}{R:List AV->gQ->Prop}(pr nw:List fR){dz:List AV}{s1 t:gQ}{y:AV}
 (hc:hY P f dz s1 pr.length fun x s'=>x=y/\s'=t) (h1:pr.map (·.1)=List.range pr.length) (h2:((pr++nw).map (·.1)).Nodup) (h3:((pr++nw).map (·.2)).Nodup)
 (h4:∀p∈nw,sat s p.2=.dead/\k0<=p.2) (ha:jr (args.map fun x=>x.hG (pV pr)) dz) (hs:oN (oy s pr pr) s1)
 (hk:R (iU d env (y.hG (oA (pr++nw)))) (tV s t (pr++nw) (pr++nw))):pT P k0 f args env s d R:=
 zJ ⟨pr,nw,_,h1,h2,h3,h4,(hc.Yn hs).args ha,fun x s' ⟨e1,e2⟩=>by subst e1;subst e2;exact hk⟩
theorem RE{P:Program}{k0:Nat}{F:List (List Nat×List Nat)->List AV->gQ->Prop}{ms:List js}{acc:List (List Nat×List Nat)}{foot:List Nat}{d:Option Nat}{env:List AV}{s:gQ}
 {f:Nat} {args:List AV} (pr nw:List fR) {dz:List AV} {s1 t:gQ} {y:AV}
 (hc:hY P f dz s1 pr.length fun x s'=>x=y/\s'=t) (h1:pr.map (·.1)=List.range pr.length) (h2:((pr++nw).map (·.1)).Nodup) (h3:((pr++nw).map (·.2)).Nodup)
 (h4:∀p∈nw,sat s p.2=.dead/\k0<=p.2) (ha:jr (args.map fun x=>x.hG (pV pr)) dz) (hs:oN (oy s pr pr) s1)
 (hk:yK P k0 F ms (((pr++nw).map (·.2)++foot,(If t (pr++nw) (pr++nw)).map (·.1))::acc) (iU d env (y.hG (oA (pr++nw)))) (rL s (If t (pr++nw) (pr++nw)))):
 rE P k0 F ms acc foot d env s f args:=.inr ⟨pr,nw,y,t,h1,h2,h3,h4,(hc.Yn hs).args ha,hk⟩
theorem Jm{P:Program}{k0 f:Nat}{args env:List AV}{s:gQ}{d:Option Nat}{R:List AV->gQ->Prop}(o j id t e:Nat){e0 t':Nat}{cs:List AV}(hd:sat s id=.dead)
 (ho:sat s o=.obj t' cs) (hj:cs[j]?=some (.d (.sl e0 (some true) []))) (h:pT P k0 f args env (sset (sset s id (.tok t e 0)) o (.obj t' (cs.set j (.own e id [])))) d R):
 pT P k0 f args env s d R:=fun C β a w vs hC hst hvs=>by
 obtain⟨h1,m⟩:=hst.Ee (t:=t) (e:=e) hd;have hoi:o≠id:=by rintro rfl;rw[hd]at ho;cases ho
 have h2:=h1.Kk (o:=o) (t:=t') (cs:=cs) (cs':=cs.set j (.own e id [])) (by rw[iE,aJ hoi,ho]) fun _ hv=>GB hj (fun _ hv=>by
  simp only[AV.ok]at hv;rw[B7 hv];exact C2 (by simp[gG])) hv
 have hf:C.gO (gG β id (.tok uE 0)) (sset (sset s id (.tok t e 0)) o (.obj t' (cs.set j (.own e id []))))=C.gO (gG β id (.tok uE 0)) (sset s id (.tok t e 0)):=by
  funext b q;refine propext (or_congr cN ?_);unfold own;refine eS fun i=>?_
  rw[iE];by_cases hio:i=o
  ·subst hio;rw[aE rfl,iE,aJ hoi,ho]
  ·rw[aJ hio]
 exact h C _ a w vs hC h2 (by rw[hf];exact m.iK hvs)
attribute [go_sem] If oy tV Ob.hG gJ iA
mutual
def AV.nh(id:Nat)(ds:List D):AV->AV
 |.iN=>.iN
 |.d x=>.d x
 |.own e j xs=>if j=id then .d (.sl e none xs)else .own e j xs
 |.ptr j off=>if j=id then .iN else .ptr j off
 |.tS e j off len=>if j=id then(if e=1/\off+len<=ds.length/\(∀d∈ds,(gD d).length=1)then .d (.sl 1 none ((ds.drop off).take len))
  else if off=0/\len=ds.length/\(∀d∈ds,(gD d).length=e)then .d (.sl e none ds)else .iN)else .tS e j off len
 |.pv cs=>.pv cs
 |.agg cs=>.agg (AV.pU id ds cs)
 |.oz cs=>.oz (AV.pU id ds cs)
 |.fn f a b=>.fn f (AV.pU id ds a) (AV.pU id ds b)
 |.mL e j n=>if j=id then(if n=ds.length/\(∀d∈ds,(gD d).length=e)then .d (.sl e none ds)else .iN)else .mL e j n
 |.mJ j k off=>if j=id then .iN else .mJ j k off
 |.BZ e xs=>.BZ e xs
 |.nm u e xs=>.nm u e xs
 |.dp x=>.dp x
 |.mp j=>if j=id then .iN else .mp j
def AV.pU(id:Nat)(ds:List D):List AV->List AV
 |[]=>[]
 |x::xs=>AV.nh id ds x::AV.pU id ds xs
end
theorem zN(id:Nat)(ds:List D):∀xs:List AV,AV.pU id ds xs=xs.map (AV.nh id ds)
 |[]=>rfl
 |x::xs=>by simp only[AV.pU,aT,zN id ds xs]
theorem IJ{id:Nat}{ds:List D}{β β':gZ}{O O':Own}{w w':World}{x:AV}{v:Value}(h:AV.ok β O w x v->AV.ok β' O' w' (x.nh id ds) v):
 ((∃d,x=.dp d/\x.nh id ds=.dp d)\/(∀d,x≠ .dp d)/\(∀d,x.nh id ds≠ .dp d)/\(AV.ok β O w x v->AV.ok β' O' w' (x.nh id ds) v)):=by
 cases x with
 |dp d=>exact .inl ⟨d,rfl,rfl⟩
 |own e j xs=>refine .inr ⟨fun d h=>(nomatch h),fun d h=>?_,h⟩;simp only[AV.nh]at h;split at h<;>exact nomatch h
 |ptr j off=>refine .inr ⟨fun d h=>(nomatch h),fun d h=>?_,h⟩;simp only[AV.nh]at h;split at h<;>exact nomatch h
 |tS e j off len=>refine .inr ⟨fun d h=>(nomatch h),fun d h=>?_,h⟩;simp only[AV.nh]at h;(repeat' split at h)<;>exact nomatch h
 |mL e j k=>refine .inr ⟨fun d h=>(nomatch h),fun d h=>?_,h⟩;simp only[AV.nh]at h;(repeat' split at h)<;>exact nomatch h
 |mJ j k off=>refine .inr ⟨fun d h=>(nomatch h),fun d h=>?_,h⟩;simp only[AV.nh]at h;split at h<;>exact nomatch h
 |mp j=>refine .inr ⟨fun d h=>(nomatch h),fun d h=>?_,h⟩;simp only[AV.nh]at h;split at h<;>exact nomatch h
 |_=>exact .inr ⟨fun d h=>(nomatch h),fun d h=>(nomatch h),h⟩
def Ob.nh(id:Nat)(ds:List D):Ob->Ob
 |.obj t cs=>.obj t (AV.pU id ds cs)
 |.jj t e n cs=>.jj t e n (AV.pU id ds cs)
 |.oU e n cs=>.oU e n (AV.pU id ds cs)
 |x=>x
def se(id:Nat)(ds:List D):gQ->gQ
 |[]=>[]
 |(j,x)::r=>if j=id then se id ds r else(j,x.nh id ds)::se id ds r
theorem zG(id:Nat)(ds:List D)(j:Nat):∀s:gQ,sat (se id ds s) j=if j=id then .dead else(sat s j).nh id ds
 |[]=>by simp[se,sat,Ob.nh]
 |(i,x)::r=>by
  simp only[se];by_cases h:i=id
  ·subst h;simp only[aj,sat,zG i ds j r];split
   ·rfl
   ·rfl
  ·simp only[h,ay,sat,zG id ds j r];by_cases h2:j=i
   ·subst h2;simp[h]
   ·simp[h2]
theorem zV{β:gZ}{s:gQ}{id b o:Nat}{ds:List D}(h:own (gG β id .no) (se id ds s) b o):∃i,i≠id/\qv β s i b o:=by
 obtain⟨i,h⟩:=h;rw[zG]at h;by_cases hi:i=id
 ·subst hi;simp at h
 ·refine⟨i,hi,?_⟩;unfold qv;simp only[hi,ay]at h;cases hs:sat s i with
  |dead=>rw[hs]at h;exact h
  |obj t cs=>rw[hs]at h;simpa[Ob.nh,gG,hi]using h
  |tok t e n=>rw[hs]at h;simpa[Ob.nh,gG,hi]using h
  |lO t e n cs=>rw[hs]at h;simpa[Ob.nh,gG,hi]using h
  |jj t e n cs=>rw[hs]at h;simpa[Ob.nh,gG,hi]using h
  |oU e n cs=>rw[hs]at h;simpa[Ob.nh,gG,hi]using h
  |mp P k es=>rw[hs]at h;first|exact h.elim|simpa[Ob.nh,gG,hi]using h
theorem zg{β:gZ}{s:gQ}{id i b:Nat}{ds:List D}(h:gy (gG β id .no) (se id ds s) i b):i≠id/\gy β s i b:=by
 unfold gy at h⊢;rw[zG]at h;by_cases hi:i=id
 ·subst hi;simp at h
 ·refine⟨hi,?_⟩;simp only[hi,ay]at h;cases hs:sat s i with
  |dead=>rw[hs]at h;exact h
  |obj t cs=>rw[hs]at h;simpa[Ob.nh,gG,hi]using h
  |tok t e n=>rw[hs]at h;simpa[Ob.nh,gG,hi]using h
  |lO t e n cs=>rw[hs]at h;simpa[Ob.nh,gG,hi]using h
  |jj t e n cs=>rw[hs]at h;simpa[Ob.nh,gG,hi]using h
  |oU e n cs=>rw[hs]at h;simpa[Ob.nh,gG,hi]using h
  |mp P k es=>rw[hs]at h;first|exact h.elim|simpa[Ob.nh,gG,hi]using h
theorem PV{O:Own}{w:World}{b:Nat}:∀{ds:List D}{vs:List Value}{o:Nat},(∀d∈ds,gD d=[d])->D.iK O w ds vs->jW O w b o vs->D.row O w b o 1 ds
 |[],_,_,_,_,_=>by simp[D.row]
 |d::ds,vs,o,hd,h,hc=>by
  simp only[D.iK]at h;obtain⟨v,r,rfl,h1,h2,h3⟩:=h;rw[D.oq];refine⟨⟨[v],rfl,fun j u hj=>?_,?_⟩,PV (fun x hx=>hd x (by simp[hx])) h3 fun j u hj=>?_⟩
  ·cases j with
   |zero=>simp at hj;subst hj;exact hc 0 v rfl
   |succ j=>simp at hj
  ·have:=hd d (by simp);cases d with
   |agg cs=>
    simp only[gD]at this;simp only[D.IZ];have hx:=bW List.length this;cases cs with
    |nil=>simp at hx
    |cons c cs=>
     simp only[eU]at this;obtain⟨e1,_⟩:=this;have:=bW SizeOf.sizeOf e1;simp at this;omega
   |_=>exact⟨v,rfl,h2⟩
  ·have:=hc (j+1) u hj;rw[show o+1+j=o+(j+1) by omega];exact this
mutual
theorem NV.ok{O:Own}{w:World}:∀{x:D}{v:Value}{bs:List Nat},NV w x v bs->(∀b∈bs,∀o,¬O b o)->D.ok O w x v
 |.any,_,_=>fun h _=>h.elim
 |.agg _,_,_=>fun h _=>h.elim
 |.lit u,v,bs=>fun h _=>by
  simp only[NV]at h;simp only[D.ok];exact⟨h.1,h.2.1⟩
 |.sl e nl xs,v,bs=>fun h hO=>by
  simp only[NV]at h;simp only[D.ok];obtain⟨a,cap,rfl,h2,h3,h4⟩:=h;refine⟨a,cap,rfl,h2,h3,?_⟩;rcases h4 with⟨_,rfl,_⟩|⟨b,vs,t,bs',rfl,rfl,h5,h6,h7,h8⟩
  ·exact .inl rfl
  ·refine .inr ⟨b,0,rfl,NR.row h8 (fun q hq=>hO q (by simp[hq])) fun j u hj=>?_⟩;refine⟨?_,hO b (by simp) _,h7 u (bV hj)⟩;simp only[World.cell?,h5,bR,ah,ay,cy];simpa using hj
theorem NC.iK{O:Own}{w:World}:∀{xs:List D}{vs:List Value}{bs:List Nat},NC w xs vs bs->(∀v∈vs,one v=true)->(∀b∈bs,∀o,¬O b o)->D.iK O w xs vs
 |[],vs,bs=>fun h _ _=>by
  simp only[NC]at h;simp only[D.iK];exact h.1
 |c::cs,vs,bs=>fun h h1 hO=>by
  simp only[NC]at h;obtain⟨v,r,b1,b2,rfl,rfl,h3,h4⟩:=h;simp only[D.iK];exact⟨v,r,rfl,h1 v (by simp),NV.ok h3 (fun b hb=>hO b (by simp[hb])),NC.iK h4 (fun v hv=>h1 v (by simp[hv])) (fun b hb=>hO b (by simp[hb]))⟩
theorem NR.row{O:Own}{w:World}{b o e:Nat}:∀{xs:List D}{vs:List Value}{bs:List Nat},NR w e xs vs bs->(∀b∈bs,∀o,¬O b o)->jW O w b o vs->D.row O w b o e xs
 |[],_,_=>fun _ _ _=>by simp[D.row]
 |.agg cs::xs,vs,bs=>fun h hO hc=>by
  simp only[NR]at h;obtain⟨us,r,b1,b2,rfl,hl,rfl,h3,h4⟩:=h;simp only[D.row];have hc1:jW O w b o us:=fun j v hj=>hc j v (by rw[aZ (aN.1 hj).1];exact hj)
  have hc2:jW O w b (o+e) r:=fun j v hj=>by
   have:=hc (e+j) v (by rw[bN gu,hl,dy];exact hj);rwa [<-cM]at this
  exact⟨⟨us,hl,hc1,NC.iK h3 (fun v hv=>by obtain⟨j,hj⟩:=cC hv;exact(hc1 j v hj).2.2) fun b hb=>hO b (by simp[hb])⟩,NR.row h4 (fun b hb=>hO b (by simp[hb])) hc2⟩
 |.any::xs,vs,bs=>fun h hO hc=>by
  simp only[NR]at h;obtain⟨v,r,b1,b2,rfl,rfl,rfl,h3,h4⟩:=h;exact h3.elim
 |.lit u::xs,vs,bs=>fun h hO hc=>by
  have hq:=fun v b1=>NV.ok (O:=O) (w:=w) (x:=.lit u) (v:=v) (bs:=b1)
  simp only[NR]at h;obtain⟨v,r,b1,b2,rfl,rfl,rfl,h3,h4⟩:=h;simp only[D.row];refine⟨⟨v,by trivial,fun j u hj=>?_,hq v b1 h3 (fun b hb=>hO b (by simp[hb]))⟩,NR.row h4 (fun b hb=>hO b (by simp[hb])) fun j u hj=>?_⟩
  ·cases j with
   |zero=>exact hc 0 u (by simpa using hj)
   |succ j=>simp at hj
  ·have:=hc (1+j) u (by rw[eA];simpa using hj);rwa [<-cM]at this
 |.sl e' nl ys::xs,vs,bs=>fun h hO hc=>by
  have hq:=fun v b1=>NV.ok (O:=O) (w:=w) (x:=.sl e' nl ys) (v:=v) (bs:=b1)
  simp only[NR]at h;obtain⟨v,r,b1,b2,rfl,rfl,rfl,h3,h4⟩:=h;simp only[D.row];refine⟨⟨v,by trivial,fun j u hj=>?_,hq v b1 h3 (fun b hb=>hO b (by simp[hb]))⟩,NR.row h4 (fun b hb=>hO b (by simp[hb])) fun j u hj=>?_⟩
  ·cases j with
   |zero=>exact hc 0 u (by simpa using hj)
   |succ j=>simp at hj
  ·have:=hc (1+j) u (by rw[eA];simpa using hj);rwa [<-cM]at this
end
section
variable{C:Ctx}{β:gZ}{s:gQ}{w:World}{id t:Nat}{ds:List D}
theorem DA{b o:Nat}(h:C.gO (gG β id .no) (se id ds s) b o):C.gO β s b o:=h.imp (fun x=>x) fun h=>let⟨i,_,h⟩:=zV h;⟨i,h⟩
theorem wI{x:D}{v:Value}(h:D.ok (C.gO β s) w x v):D.ok (C.gO (gG β id .no) (se id ds s)) w x v:=D.ke (fun _ _ _ hc hn=>⟨hc,fun h=>hn (DA h)⟩) _ _ h
theorem xY{x:List D}{v:List Value}(h:D.iK (C.gO β s) w x v):D.iK (C.gO (gG β id .no) (se id ds s)) w x v:=D.kj (fun _ _ _ hc hn=>⟨hc,fun h=>hn (DA h)⟩) _ _ h
def PC:List AV->List D->Prop
 |[],[]=>True
 |.dp d::xs,d'::ds=>d=d'/\PC xs ds
 |.d d::xs,d'::ds=>d=d'/\PC xs ds
 |_,_=>False
theorem PC.iK{β:gZ}{O O':Own}{w:World}(hO:∀x v,D.ok O w x v->D.ok O' w x v):∀{cs:List AV}{ds:List D}{vs:List Value}{bs:List Nat},PC cs ds->oT β O w cs vs bs->(∀v∈vs,one v=true)->
 (∀b∈bs,∀o,¬O' b o)->∃pre rest,vs=pre++rest/\D.iK O' w ds pre
 |[],[],vs,bs,_,_,_,_=>⟨[],vs,rfl,by simp[D.iK]⟩
 |.dp d::xs,d'::ds,vs,bs,hp,hx,h1,hb=>by
  simp only[PC]at hp;obtain⟨rfl,hp⟩:=hp;simp only[oT,NX]at hx;obtain⟨v,r,b1,b2,rfl,rfl,h3,h4⟩:=hx;obtain⟨pre,rest,rfl,h5⟩:=PC.iK hO hp h4 (fun v hv=>h1 v (by simp[hv])) fun b hq=>hb b (by simp[hq])
  exact⟨v::pre,rest,rfl,by simp only[D.iK];exact⟨v,pre,rfl,h1 v (by simp),NV.ok h3 fun b hq=>hb b (by simp[hq]),h5⟩⟩
 |.d d::xs,d'::ds,vs,bs,hp,hx,h1,hb=>by
  simp only[PC]at hp;obtain⟨rfl,hp⟩:=hp;simp only[oT,NX]at hx;obtain⟨v,r,b1,b2,rfl,rfl,⟨h3,rfl⟩,h4⟩:=hx;obtain⟨pre,rest,rfl,h5⟩:=PC.iK hO hp h4 (fun v hv=>h1 v (by simp[hv])) fun b hq=>hb b (by simp[hq])
  simp only[AV.ok]at h3;exact⟨v::pre,rest,rfl,by simp only[D.iK];exact⟨v,pre,rfl,h1 v (by simp),hO _ _ h3,h5⟩⟩
def Ch(s:gQ)(id:Nat)(ds:List D):Prop:=
 (∃t,sat s id=.obj t (ds.map .d)/\∀d∈ds,gD d=[d])\/(∃t e,sat s id=.lO t e ds.length (ds.flatMap gD)/\∀d∈ds,(gD d).length=e)\/
  (∃t e,sat s id=.obj t ((ds.flatMap gD).map .d)/\(∀d∈ds,(gD d).length=e)/\e≠1/\ds≠[])\/
  ∃e cs,sat s id=.oU e ds.length cs/\PC cs (ds.flatMap gD)/\∀d∈ds,(gD d).length=e
theorem RT(h:Inv C β s w)(ho:sat s id=.obj t (ds.map .d))(hd:∀d∈ds,gD d=[d]){off len:Nat}(hl:off+len<=ds.length){v:Value}
 (hv:AV.ok β (C.gO β s) w (.tS 1 id off len) v):D.ok (C.gO (gG β id .no) (se id ds s)) w (.sl 1 none ((ds.drop off).take len)) v:=by
 simp only[AV.ok]at hv;obtain⟨b,cap,h1,⟨h2,h3⟩,rfl⟩:=hv;have hob:=h.obs id;rw[ho]at hob;obtain⟨b',vs,h4,h5,h6,h7⟩:=hob;rw[h1]at h4;cases h4;have hlen:((ds.drop off).take len).length=len:=by simp;omega
 obtain⟨pre,rest,hvs,h7⟩:=h7;have h6':∀u∈pre,one u=true:=fun u hu=>h6 u (by rw[hvs];exact cu _ hu)
 have hoks:=Bp h6' h7;have hcells:jW (C.gO (gG β id .no) (se id ds s)) w b 0 pre:=fun j u hj=>by
  have hju:vs[j]?=some u:=by
   have:vs.toList[j]?=some u:=by rw[hvs,aZ (aN.1 hj).1];exact hj
   simpa using this
  refine⟨?_,?_,h6' u (bV hj)⟩
  ·simp[World.cell?,h5,hju]
  ·rintro(hO|hO)
   ·have:=h.low b (0+j) hO;rcases h.sK b (0+j) ⟨id,by rw[ho];exact h1⟩with h8|h8
    ·exact this.2 h8
    ·omega
   ·obtain⟨i,hi,hO⟩:=zV hO;exact hi (h.inj i id b hO.block (by unfold gy;rw[ho];exact h1))
 simp only[D.ok];refine⟨some ⟨b,off,none⟩,cap,by rw[hlen],by rw[hlen];exact⟨h2,h3⟩,trivial,.inr ⟨b,off,rfl,?_⟩⟩;have hall:=xY (id:=id) (ds:=ds) hoks;rw[D.kM]at hall;refine PV (vs:=(pre.drop off).take len) (fun d hd'=>hd d (bO (bg hd'))) ?_ fun j u hj=>?_
 ·rw[D.kM];refine⟨by simp[<-hall.1],fun i x u hx hu=>?_⟩;rw[bL]at hx hu;split at hx
  ·rename_i hi;rw[aE hi]at hu;rw[dj]at hx hu;exact hall.2 _ _ _ hx hu
  ·cases hx
 ·rw[bL]at hj;split at hj
  ·rw[dj]at hj;have:=hcells (off+j) u hj;rwa [show 0+(off+j)=off+j by omega]at this
  ·cases hj
theorem Dr{O:Own}{w:World}:∀{xs ys:List D}{vs:List Value},D.iK O w (xs++ys) vs->∃us r,vs=us++r/\D.iK O w xs us/\D.iK O w ys r
 |[],ys,vs,h=>⟨[],vs,rfl,by simp[D.iK],h⟩
 |x::xs,ys,vs,h=>by
  simp only[bH,D.iK]at h;obtain⟨v,r,rfl,h0,h1,h2⟩:=h;obtain⟨us,r',rfl,h3,h4⟩:=Dr h2;exact⟨v::us,r',rfl,by simp only[D.iK];exact⟨v,us,rfl,h0,h1,h3⟩,h4⟩
theorem zm{O:Own}{w:World}{b e:Nat}:∀{ds:List D}{vs:List Value}{o:Nat},(∀d∈ds,(gD d).length=e)->D.iK O w (ds.flatMap gD) vs->jW O w b o vs->D.row O w b o e ds
 |[],_,_,_,_,_=>by simp[D.row]
 |d::ds,vs,o,hd,h,hc=>by
  rw[cn]at h;obtain⟨us,r,rfl,h1,h2⟩:=Dr h;have hl:=D.iS h1;rw[hd d (by simp)]at hl;rw[D.oq];refine⟨⟨us,hl,fun j u hj=>?_,Li h1⟩,zm (fun x hx=>hd x (by simp[hx])) h2 fun j u hj=>?_⟩
  ·exact hc j u (by rw[aZ (aN.1 hj).1];exact hj)
  ·have:=hc (e+j) u (by rw[bN gu,hl,dy];exact hj);rwa [<-cM]at this
theorem RS{e:Nat}(h:Inv C β s w)(ho:sat s id=.lO t e ds.length (ds.flatMap gD)){e':Nat}(hd:∀d∈ds,(gD d).length=e'){v:Value}
 (hv:AV.ok β (C.gO β s) w (.mL e' id ds.length) v):D.ok (C.gO (gG β id .no) (se id ds s)) w (.sl e' none ds) v:=by
 simp only[AV.ok]at hv;obtain⟨u,m,h1,h2,h3,_⟩:=hv;have hob:=h.obs id;rw[ho]at hob;obtain⟨u',h4,_,h6⟩:=hob;rw[h4]at h1;obtain⟨rfl,rfl⟩:=h1;have:=h3 rfl;subst this;simp only[D.ok];rcases h6 with⟨rfl,h7⟩|⟨b,cap,vs,rfl,k2,k3,k4,k5,k6,pre,rest,k7,k8⟩
 ·have:ds=[]:=bp.1 h7;subst this;exact⟨none,0,rfl,⟨aO _,gu⟩,trivial,.inl rfl⟩
 ·refine⟨_,cap,rfl,⟨k4,k5⟩,trivial,.inr ⟨b,0,rfl,zm hd (xY k8) fun j u hj=>?_⟩⟩;have hju:vs[j]?=some u:=by
   have:vs.toList[j]?=some u:=by rw[k7,aZ (aN.1 hj).1];exact hj
   simpa using this
  refine⟨by simp[World.cell?,k2,hju],?_,k6 u (by rw[k7];exact cu _ (bV hj))⟩;have hbl:gy β s id b:=by unfold gy;rw[ho];exact⟨cap,h4⟩
  rintro(hO|hO)
  ·have:=h.low b (0+j) hO;rcases h.sK b (0+j) ⟨id,by rw[ho];exact⟨cap,h4⟩⟩with h8|h8
   ·exact this.2 h8
   ·omega
  ·obtain⟨i,hi,hO⟩:=zV hO;exact hi (h.inj i id b hO.block hbl)
theorem RU{e:Nat}{cs:List AV}(h:Inv C β s w)(ho:sat s id=.oU e ds.length cs)(hp:PC cs (ds.flatMap gD)){e':Nat}(hd:∀d∈ds,(gD d).length=e'){v:Value}
 (hv:AV.ok β (C.gO β s) w (.mL e' id ds.length) v):D.ok (C.gO (gG β id .no) (se id ds s)) w (.sl e' none ds) v:=by
 simp only[AV.ok]at hv;obtain⟨u,m,h1,h2,h3,_⟩:=hv;have hob:=h.obs id;rw[ho]at hob;obtain⟨u',bs,h4,_,hcl,h6⟩:=hob;rw[h4]at h1;obtain⟨rfl,rfl⟩:=h1;have:=h3 rfl;subst this;simp only[D.ok];have hfree:∀b,gy β s id b->(∀o,own β s b o)->∀o,¬C.gO (gG β id .no) (se id ds s) b o:=fun b hbl hb o hO=>by
  rcases hO with hO|hO
  ·have:=h.low b o hO;rcases h.sK b o (hb o)with h8|h8
   ·exact this.2 h8
   ·omega
  ·obtain⟨i,hi,hO⟩:=zV hO;exact hi (h.inj i id b hO.block hbl)
 rcases h6 with⟨⟨a,rfl⟩,h7,_⟩|⟨b,cap,vs,tq,rfl,k2,k3,k4,k5,k6,k0,kn,k8⟩
 ·have:ds=[]:=bp.1 h7;subst this;exact⟨a,0,rfl,⟨aO _,gu⟩,trivial,.inl rfl⟩
 ·have hg:=hfree b (by unfold gy;rw[ho];exact⟨_,_,h4,.inl ⟨cap,rfl,k0⟩⟩) fun o=>⟨id,by rw[ho];exact⟨_,_,h4,.inl ⟨cap,rfl,k0⟩⟩⟩
  obtain⟨pre,rest,k7,k9⟩:=PC.iK (O':=C.gO (gG β id .no) (se id ds s)) (fun x v h=>wI h) hp k8 k6 fun q hq=>hfree q (by unfold gy;rw[ho];exact⟨_,_,h4,.inr hq⟩) fun o=>⟨id,by rw[ho];exact⟨_,_,h4,.inr hq⟩⟩
  refine⟨_,cap,rfl,⟨k4,k5⟩,trivial,.inr ⟨b,0,rfl,zm hd k9 fun j u hj=>?_⟩⟩;have hju:vs[j]?=some u:=by
   have:vs.toList[j]?=some u:=by rw[k7,aZ (aN.1 hj).1];exact hj
   simpa using this
  exact⟨by simp[World.cell?,k2,hju],hg _,k6 u (by rw[k7];exact cu _ (bV hj))⟩
theorem OL{e:Nat}(h:Inv C β s w)(ho:Ch s id ds)(hd:∀d∈ds,(gD d).length=e)(hn:¬(e=1/\0+ds.length<=ds.length/\∀d∈ds,(gD d).length=1)){v:Value}
 (hv:AV.ok β (C.gO β s) w (.tS e id 0 ds.length) v):D.ok (C.gO (gG β id .no) (se id ds s)) w (.sl e none ds) v:=by
 simp only[AV.ok]at hv;obtain⟨b,cap,h1,⟨h2,h3⟩,rfl⟩:=hv;simp only[D.ok];by_cases hds:ds=[]
 ·subst hds;exact⟨_,cap,rfl,⟨h2,h3⟩,trivial,.inl rfl⟩
 obtain⟨d0,hd0⟩:=List.exists_mem_of_ne_nil _ hds;rcases ho with⟨t,ho,hd1⟩|⟨t,e',ho,hd1⟩|⟨t,e',ho,hd1,he1,hne⟩|⟨e',cs,ho,hd1⟩
 rotate_right
 ·have hob:=h.obs id;rw[ho]at hob;obtain⟨u,bs,h4,_⟩:=hob;rw[h1]at h4;cases h4
 ·exfalso;have e1:=hd d0 hd0;rw[hd1 d0 hd0]at e1;exact hn ⟨e1.symm,gu,fun d hd=>by rw[hd1 d hd];rfl⟩
 ·have hob:=h.obs id;rw[ho]at hob;obtain⟨u,h4,_⟩:=hob;rw[h1]at h4;cases h4
 ·have hob:=h.obs id;rw[ho]at hob;obtain⟨b',vs,h4,h5,h6,h7⟩:=hob;rw[h1]at h4;cases h4;obtain⟨pre,rest,hvs,h7⟩:=h7;have h6':∀u∈pre,one u=true:=fun u hu=>h6 u (by rw[hvs];exact cu _ hu)
  have hoks:=Bp h6' h7;refine⟨_,cap,rfl,⟨h2,h3⟩,trivial,.inr ⟨b,0,rfl,zm hd (xY hoks) fun j u hj=>?_⟩⟩;have hju:vs[j]?=some u:=by
   have:vs.toList[j]?=some u:=by rw[hvs,aZ (aN.1 hj).1];exact hj
   simpa using this
  refine⟨by simp[World.cell?,h5,hju],?_,h6' u (bV hj)⟩;rintro(hO|hO)
  ·have:=h.low b (0+j) hO;rcases h.sK b (0+j) ⟨id,by rw[ho];exact h1⟩with h8|h8
   ·exact this.2 h8
   ·omega
  ·obtain⟨i,hi,hO⟩:=zV hO;exact hi (h.inj i id b hO.block (by unfold gy;rw[ho];exact h1))
mutual
theorem BX(h:Inv C β s w)(ho:Ch s id ds):∀(x:AV)(v:Value),AV.ok β (C.gO β s) w x v->
 AV.ok (gG β id .no) (C.gO (gG β id .no) (se id ds s)) w (x.nh id ds) v
 |.iN,v=>fun _=>by simp[AV.nh,AV.ok]
 |.d x,v=>fun hv=>by simp only[AV.nh,AV.ok]at hv⊢;exact wI hv
 |.own e j xs,v=>fun hv=>by
  simp only[AV.nh];split
  ·simp only[AV.ok]at hv⊢;exact wI hv.1
  ·rename_i hj;simp only[AV.ok]at hv⊢;obtain⟨h1,u,n,h2,h3⟩:=hv;exact⟨wI h1,u,n,by simpa[gG,hj]using h2,h3⟩
 |.ptr j off,v=>fun hv=>by
  simp only[AV.nh];split
  ·simp[AV.ok]
  ·rename_i hj;simp only[AV.ok]at hv⊢;obtain⟨b,h1,h2⟩:=hv;exact⟨b,by simpa[gG,hj]using h1,h2⟩
 |.tS e j off len,v=>fun hv=>by
  simp only[AV.nh];split
  ·rename_i hj;subst hj;split
   ·rename_i hc;obtain⟨rfl,hc,hc1⟩:=hc;simp only[AV.ok];rcases ho with⟨t,ho,hd⟩|⟨t,e,ho,hd⟩|⟨t,e,ho,hd,he1,hne⟩|⟨e,cs,ho,hd⟩
    rotate_right
    ·have hob:=h.obs j;rw[ho]at hob;obtain⟨u,bs,h4,_⟩:=hob;simp only[AV.ok]at hv;obtain⟨b,cap,h1,_⟩:=hv;rw[h1]at h4;cases h4
    ·exact RT h ho hd hc hv
    ·have hob:=h.obs j;rw[ho]at hob;obtain⟨u,h4,_⟩:=hob;simp only[AV.ok]at hv;obtain⟨b,cap,h1,_⟩:=hv;rw[h1]at h4;cases h4
    ·obtain⟨d,hd'⟩:=List.exists_mem_of_ne_nil _ hne;exact absurd ((hd d hd').symm.trans (hc1 d hd')) he1
   ·rename_i hc1;split
    ·rename_i hc;obtain⟨rfl,rfl,hc⟩:=hc;simp only[AV.ok];exact OL h ho hc hc1 hv
    ·simp[AV.ok]
  ·rename_i hj;simp only[AV.ok]at hv⊢;obtain⟨b,cap,h1,h2⟩:=hv;exact⟨b,cap,by simpa[gG,hj]using h1,h2⟩
 |.pv cs,v=>fun hv=>by
  simp only[AV.nh,AV.ok]at hv⊢;obtain⟨b,o,vs,h1,h2,h3⟩:=hv;exact⟨b,o,vs,h1,h2.mono (fun _ _ _ hc hn=>⟨hc,fun h=>hn (DA h)⟩),xY h3⟩
 |.agg cs,v=>fun hv=>by
  simp only[AV.nh,AV.ok]at hv⊢;obtain⟨vs,h1,h2,h3⟩:=hv;exact⟨vs,h1,h2,yB h ho cs _ h3⟩
 |.oz cs,v=>fun hv=>by
  simp only[AV.nh,AV.ok]at hv⊢;obtain⟨vs,h1,h3⟩:=hv;exact⟨vs,h1,yB h ho cs _ h3⟩
 |.fn f a b,v=>fun hv=>by
  simp only[AV.nh,AV.ok]at hv⊢;obtain⟨fs,cs,h1,h2,h3⟩:=hv;exact⟨fs,cs,h1,yB h ho a _ h2,yB h ho b _ h3⟩
 |.mL e j n,v=>fun hv=>by
  simp only[AV.nh];split
  ·rename_i hj;subst hj;split
   ·rename_i hc;obtain⟨rfl,hc⟩:=hc;simp only[AV.ok];rcases ho with⟨t,ho,hd⟩|⟨t,e,ho,hd⟩|⟨t,e,ho,hd,he1,hne⟩|⟨e,cs,ho,hp,hd⟩
    rotate_right
    ·exact RU h ho hp hc hv
    ·have hob:=h.obs j;rw[ho]at hob;obtain⟨b,vs,h4,_⟩:=hob;simp only[AV.ok]at hv;obtain⟨u,m,h1,_⟩:=hv;rw[h4]at h1;exact h1.elim
    ·exact RS h ho hc hv
    ·have hob:=h.obs j;rw[ho]at hob;obtain⟨b,vs,h4,_⟩:=hob;simp only[AV.ok]at hv;obtain⟨u,m,h1,_⟩:=hv;rw[h4]at h1;exact h1.elim
   ·simp[AV.ok]
  ·rename_i hj;simp only[AV.ok]at hv⊢;obtain⟨u,m,h1,h2⟩:=hv;exact⟨u,m,by simpa[gG,hj]using h1,h2⟩
 |.mJ j k off,v=>fun hv=>by
  simp only[AV.nh];split
  ·simp[AV.ok]
  ·rename_i hj;simp only[AV.ok]at hv⊢;obtain⟨u,m,b,off',h1,h2⟩:=hv;exact⟨u,m,b,off',by simpa[gG,hj]using h1,h2⟩
 |.BZ e xs,v=>fun hv=>by
  simp only[AV.nh,AV.ok]at hv⊢;obtain⟨a,h1,h2⟩:=hv;exact⟨a,h1,wI h2⟩
 |.nm u e xs,v=>fun hv=>by
  simp only[AV.nh,AV.ok]at hv⊢;exact⟨hv.1,wI hv.2⟩
 |.dp x,v=>fun _=>by simp[AV.nh,AV.ok]
 |.mp j,v=>fun hv=>by
  simp only[AV.nh];split
  ·simp[AV.ok]
  ·rename_i hj;simp only[AV.ok]at hv⊢;obtain⟨b,h1,h2⟩:=hv;exact⟨b,by simpa[gG,hj]using h1,h2⟩
theorem yB(h:Inv C β s w)(ho:Ch s id ds):∀(xs:List AV)(vs:List Value),AV.iK β (C.gO β s) w xs vs->
 AV.iK (gG β id .no) (C.gO (gG β id .no) (se id ds s)) w (AV.pU id ds xs) vs
 |[],vs=>fun hv=>by simpa[AV.pU,AV.iK]using hv
 |x::xs,vs=>fun hv=>by
  simp only[AV.pU,AV.iK]at hv⊢;obtain⟨v,r,h1,h2,h3⟩:=hv;exact⟨v,r,h1,BX h ho x v h2,yB h ho xs r h3⟩
end
theorem Inv.nh(h:Inv C β s w)(hid:C.k<=id)(ho:Ch s id ds):Inv C (gG β id .no) (se id ds s) w where
 size:=h.size
 io:=h.io
 keep:=h.keep
 vr:=h.vr
 sK:=fun b o ho=>let⟨i,_,h1⟩:=zV ho;h.sK b o ⟨i,h1⟩
 uW:=fun i b hb=>h.uW i b (zg hb).2
 pl:=fun i hi=>by
  have:i≠id:=gu;simpa[gG,this]using h.pl i hi
 low:=h.low
 obs:=fun i=>by
  rw[zG];by_cases hi:i=id
  ·subst hi;simp[vO,gG]
  ·simp only[hi,ay];have hob:=h.obs i;cases hs:sat s i with
   |dead=>rw[hs]at hob;simpa[Ob.nh,vO,gG,hi]using hob
   |obj t' cs=>
    rw[hs]at hob;obtain⟨b,vs,h1,h2,h0,h3⟩:=hob;exact⟨b,vs,by simpa[gG,hi]using h1,h2,h0,h3.imp fun _ hx=>yB h ho _ _ hx⟩
   |tok t' e n=>
    rw[hs]at hob;obtain⟨u,h1,h2⟩:=hob;exact⟨u,by simpa[gG,hi]using h1,h2⟩
   |lO t' e n cs=>
    rw[hs]at hob;obtain⟨u,h1,hl,h2⟩:=hob;refine⟨u,by simpa[gG,hi]using h1,hl,?_⟩;rcases h2 with h2|⟨b,cap,vs,k1,k2,k3,k4,k5,k6,pre,rest,k7,k8⟩
    ·exact .inl h2
    ·exact .inr ⟨b,cap,vs,k1,k2,k3,k4,k5,k6,pre,rest,k7,xY k8⟩
   |jj t' e n cs=>
    rw[hs]at hob;obtain⟨u,bs,h1,h0,h2⟩:=hob;refine⟨u,bs,by simpa[gG,hi]using h1,h0,?_⟩;rw[zN];exact h2.imp (f:=AV.nh id ds) (β:=β) (O:=C.gO β s) (w:=w) (fun x v=>IJ (BX h ho x v)) (fun _ _=>rfl) (fun _ _ _=>rfl)
   |oU e n cs=>
    rw[hs]at hob;obtain⟨u,bs,h1,h0,h2⟩:=hob;refine⟨u,bs,by simpa[gG,hi]using h1,h0,?_⟩;rw[zN];exact h2.imp (f:=AV.nh id ds) (β:=β) (O:=C.gO β s) (w:=w) (fun x v=>IJ (BX h ho x v)) (fun _ _=>rfl) (fun _ _ _ _=>rfl)
   |mp P k es=>
    rw[hs]at hob;obtain⟨b,h1,h2⟩:=hob;exact⟨b,by simpa[gG,hi]using h1,h2.imp rfl fun x v hx=>wI hx⟩
 inj:=fun i j b hi hj=>h.inj i j b (zg hi).2 (zg hj).2
end
theorem xF(id:Nat)(ds:List D):∀(xs:List AV)(i:Nat),(AV.pU id ds xs)[i]?=(xs[i]?).map (AV.nh id ds)
 |[],_=>by simp[AV.pU]
 |x::xs,0=>by simp[AV.pU]
 |x::xs,i+1=>by simp[AV.pU,xF id ds xs i]
theorem zq(id:Nat)(ds:List D):∀(xs:List AV),(AV.pU id ds xs).length=xs.length
 |[]=>rfl
 |x::xs=>by simp[AV.pU,zq id ds xs]
theorem iB.RP{k:Nat}{env:List AV}{s:gQ}(id:Nat){ds:List D}(hid:k<=id)(ho:Ch s id ds):
 iB k env s (AV.pU id ds env) (se id ds s):=fun C β a w hC hst=>by
 subst hC;refine⟨gG β id .no,hst.defers,hst.inv.nh hid ho,by rw[zq,hst.len],fun i x hx=>?_⟩;rw[xF]at hx;cases hx2:env[i]? with
 |none=>rw[hx2]at hx;cases hx
 |some y=>rw[hx2]at hx;cases hx;exact BX hst.inv ho y _ (hst.env i y hx2)
def aD{α:Type}(f:α->D)(x:α):AV:=.d (f x)
theorem JX{α:Type}(f:α->D)(xs:List α):xs.map (aD f)=(xs.map f).map .d:=by rw[eB];rfl
theorem RV{α:Type}[Inhabited α]{f:α->D}{xs:List α}{i:Nat}(h:i<xs.length):(xs.map (aD f)).getD i .iN=.d (f (xs.getD i default)):=by simp[aB,bA,aA h,aD]
theorem P7{α:Type}{f:α->D}{xs:List α}{i:Nat}{v:α}(h:i<xs.length):List.take i (xs.map (aD f))++(AV.d (f v)::List.drop (i+1) (xs.map (aD f)))=(xs.set i v).map (aD f):=by
 rw[eT,cL,aE (by simpa using h)];rfl
theorem HK{α:Type}[Inhabited α]{l:List D}{f:α->D}{xs:List α}(h:l=xs.map f){n:Nat}(hn:xs.length=n){i:Nat}{d:D}(hi:i<n):l.getD i d=f (xs.getD i default):=by subst h;exact getD_map' gu
theorem Sy{k:IntKind}{n:Nat}{v:Int}:(List.replicate n [AV.d (.lit (.int k v))]).flatten=(List.replicate n v).map (aD fun v=>.lit (.int k v)):=by
 induction n with
 |zero=>rfl
 |succ n ih=>simp only[cp,cm,aT,ih];rfl
theorem tg{α:Type}{f:α->D}{x:AV}{v:α}(h:AV.le x (.d (f v))):∀n,jr (List.replicate n [x]).flatten ((List.replicate n v).map (aD f))
 |0=>trivial
 |n+1=>by simp only[cp,cm,aT,bH,bl];exact⟨h,tg h n⟩
theorem FZ{xs:List AV}:jr xs xs<->True:=⟨fun _=>trivial,fun _=>.refl _⟩
theorem Sx{n:Nat}{v:Int}:(List.replicate n [AV.d (iD v)]).flatten=(List.replicate n v).map (aD iD):=Sy
theorem DC{id:Nat}{ds:List D}:AV.nh id ds .iN=.iN:=by simp only[AV.nh]
theorem OK{id:Nat}{ds:List D}{x:D}:AV.nh id ds (.d x)=.d x:=by simp only[AV.nh]
theorem Gg{id e j:Nat}{ds xs:List D}:AV.nh id ds (.own e j xs)=if j=id then .d (.sl e none xs)else .own e j xs:=by simp only[AV.nh]
theorem Gh{id j off:Nat}{ds:List D}:AV.nh id ds (.ptr j off)=if j=id then .iN else .ptr j off:=by simp only[AV.nh]
theorem BW{id e j off len:Nat}{ds:List D}(h:¬j=id):AV.nh id ds (.tS e j off len)=.tS e j off len:=by simp only[AV.nh,aJ h]
class uK {α:Type} (f:α->D) (e:outParam Nat):Prop where
 len:∀x,(gD (f x)).length=e
theorem Bb{α:Type}{id n:Nat}{f:α->D}[uK f 1]{xs:List α}(h:xs.length=n):AV.nh id (xs.map f) (.tS 1 id 0 n)=.d (gN 1 f xs):=by
 simp only[AV.nh,aj,bZ];rw[aE ⟨trivial,by simp[h],by rintro d hd;obtain⟨x,_,rfl⟩:=bF.1 hd;exact uK.len x⟩,bM (by simp[h])];rfl
theorem DD{α:Type}{id e n:Nat}{f:α->D}[uK f e]{xs:List α}(h:n=xs.length):AV.nh id (xs.map f) (.tS e id 0 n)=.d (gN e f xs):=by
 subst h;by_cases he:e=1
 ·subst he;exact Bb rfl
 ·simp only[AV.nh,aj];rw[aJ fun h=>he h.1,aE ⟨trivial,by simp,by rintro d hd;obtain⟨x,_,rfl⟩:=bF.1 hd;exact uK.len x⟩];rfl
theorem JF{id:Nat}{ds cs:List D}:AV.nh id ds (.pv cs)=.pv cs:=by simp only[AV.nh]
theorem Gf{id:Nat}{ds:List D}{cs:List AV}:AV.nh id ds (.agg cs)=.agg (AV.pU id ds cs):=by simp only[AV.nh]
theorem Gi{id:Nat}{ds:List D}{cs:List AV}:AV.nh id ds (.oz cs)=.oz (AV.pU id ds cs):=by simp only[AV.nh]
theorem JD{id f:Nat}{ds:List D}{a b:List AV}:AV.nh id ds (.fn f a b)=.fn f (AV.pU id ds a) (AV.pU id ds b):=by simp only[AV.nh]
theorem DE{id:Nat}{ds:List D}:AV.pU id ds []=[]:=by simp only[AV.pU]
theorem BY{id:Nat}{ds:List D}{x:AV}{xs:List AV}:AV.pU id ds (x::xs)=AV.nh id ds x::AV.pU id ds xs:=by simp only[AV.pU]
theorem K2{α:Type}{id:Nat}{ds:List D}{f:α->D}:∀xs:List α,AV.pU id ds (xs.map (aD f))=xs.map (aD f)
 |[]=>by simp only[dz,AV.pU]
 |x::xs=>by simp only[aT,AV.pU,K2 xs,aD,AV.nh]
theorem Sf{α:Type}{f:α->D}{xs:List α}:(xs.map f).map AV.d=xs.map (aD f):=(JX f xs).symm
theorem Ln{α:Type}{ρ:Nat->Option Nat}{f:α->D}:∀xs:List α,AV.gY ρ (xs.map (aD f))=xs.map (aD f)
 |[]=>by simp only[dz,AV.gY]
 |x::xs=>by simp only[aT,AV.gY,Ln xs,aD,AV.hG]
theorem LG{α:Type}{f:α->D}:∀xs:List α,AV.rf (xs.map (aD f))=some (xs.map f)
 |[]=>rfl
 |x::xs=>by simp only[aT,aD,AV.rf,aH];exact⟨_,LG xs,rfl⟩
theorem XX{α:Type}{f:α->D}{xs:List α}:AV.mk (xs.map (aD f))=.d (.agg (xs.map f)):=by unfold AV.mk;rw[LG]
def Yt{α:Type}(f:α->D)(xs:List α):D:=.agg (xs.map f)
theorem EA{P:Program}{k0 f:Nat}{args env:List AV}{s:gQ}{d:Option Nat}{R:List AV->gQ->Prop}{α:Type}(id:Nat){t:Nat}(g:α->D)(xs:List α)(hid:k0<=id)
 (ho:sat s id=.obj t (xs.map (aD g))) (hd:∀x,gD (g x)=[g x]) (h:pT P k0 f (AV.pU id (xs.map g) args) (AV.pU id (xs.map g) env) (se id (xs.map g) s) d R):
 pT P k0 f args env s d R:=fun C β a w vs hC hst hvs=>by
 subst hC;have ho':sat s id=.obj t ((xs.map g).map .d):=by rw[ho,JX]
 have hd':∀d∈xs.map g,gD d=[d]:=fun d h=>by obtain⟨x,_,rfl⟩:=bF.1 h;exact hd x
 refine h C (gG β id .no) a w vs rfl ⟨hst.defers,hst.inv.nh hid (.inl ⟨t,ho',hd'⟩),by rw[zq,hst.len],fun i x hx=>?_⟩ (yB hst.inv (.inl ⟨t,ho',hd'⟩) _ _ hvs);rw[xF]at hx;cases hx2:env[i]? with
 |none=>rw[hx2]at hx;cases hx
 |some y=>rw[hx2]at hx;cases hx;exact BX hst.inv (.inl ⟨t,ho',hd'⟩) y _ (hst.env i y hx2)
attribute [go_sem] DC OK Gg Gh BW Bb JF Gf Gi JD DE BY K2 Sf Ln XX Ob.nh se RV P7 FZ List.flatten_cons List.flatten_nil Sx Yt Nat.mul_one List.length_set List.length_replicate
def jT{α:Type}(f:α->D)(xs:List α):List D:=(xs.map f).flatMap gD
theorem HL{α:Type}{f:α->D}:jT f []=[]:=rfl
theorem uS{α:Type}{f:α->D}{x:α}{xs:List α}:jT f (x::xs)=gD (f x)++jT f xs:=by simp[jT]
theorem Ct{α:Type}{f:α->D}{xs ys:List α}:jT f (xs++ys)=jT f xs++jT f ys:=by simp[jT]
theorem zw{α:Type}{f:α->D}{e:Nat}(he:∀x,(gD (f x)).length=e):∀xs:List α,(jT f xs).length=xs.length*e
 |[]=>by simp[jT]
 |x::xs=>by rw[uS,au,he,zw he xs,aK,bk];omega
theorem Fi{α:Type}{f:α->D}{e:Nat}(he:∀x,(gD (f x)).length=e):∀(xs:List α)(i k:Nat)[Inhabited α],i<xs.length->k<=e->
 List.drop (i*e+k) (jT f xs)=(gD (f (xs.getD i default))).drop k++jT f (xs.drop (i+1))
 |[],i,k,_,h,_=>by simp at h
 |x::xs,0,k,_,h,hk=>by
  rw[uS,dM,cy,cV (by rw[he];exact hk)];simp
 |x::xs,i+1,k,_,h,hk=>by
  have e1:(i+1)*e+k=(gD (f x)).length+(i*e+k):=by rw[he,bk];omega
  rw[uS,e1,List.drop_append,bU gu,bl,dy,Fi he xs i k (by simpa using h) hk];simp
theorem Fj{α:Type}[Inhabited α]{f:α->D}{e:Nat}(he:∀x,(gD (f x)).length=e){xs:List α}{i k:Nat}(hi:i<xs.length)(hk:k<e){d:D}:
 (jT f xs).getD (i*e+k) d=(gD (f (xs.getD i default))).getD k d:=by
 have h:=Fi he xs i k hi gu;have h1:(jT f xs).getD (i*e+k) d=(List.drop (i*e+k) (jT f xs)).getD 0 d:=by simp[aB]
 have h2:k<(gD (f (xs.getD i default))).length:=by rw[he];exact hk
 rw[h1,h];simp only[aB];rw[aZ (by rw[bX,he];omega),dj];simp
theorem Inv.Ys{C:Ctx}{β:gZ}{s:gQ}{w:World}(h:Inv C β s w){id t e:Nat}(ho:sat s id=.tok t e 0):
 Inv C β (sset s id (.lO t e 0 [])) w/\C.gO β (sset s id (.lO t e 0 []))=C.gO β s:=by
 have hown:∀b o,own β (sset s id (.lO t e 0 [])) b o<->own β s b o:=fun b o=>by
  unfold own;refine eS fun i=>?_
  rw[iE];by_cases hi:i=id
  ·subst hi;rw[ho];simp
  ·rw[aJ hi]
 have hblk:∀i b,gy β (sset s id (.lO t e 0 [])) i b<->gy β s i b:=fun i b=>by
  unfold gy;rw[iE];by_cases hi:i=id
  ·subst hi;rw[ho];simp
  ·rw[aJ hi]
 have hf:C.gO β (sset s id (.lO t e 0 []))=C.gO β s:=by funext b o;exact propext (or_congr cN (hown b o))
 refine⟨⟨h.size,h.io,h.keep,h.vr,fun b o ho=>h.sK b o ((hown b o).1 ho),fun id b hb=>h.uW id b ((hblk id b).1 hb),h.pl,h.low,fun i=>?_,
  fun i j b hi hj=>h.inj i j b ((hblk i b).1 hi) ((hblk j b).1 hj)⟩,hf⟩
 rw[hf,iE];have h1:=h.obs i;by_cases hi:i=id
 ·subst hi;rw[ho]at h1;obtain⟨u,h2,h3⟩:=h1;simp only[aj];refine⟨u,h2,by simp,?_⟩;rcases h3 with h3|⟨b,cap,vs,k1,k2,k3,k4,k5,k6⟩
  ·exact .inl h3
  ·exact .inr ⟨b,cap,vs,k1,k2,k3,k4,k5,k6,[],vs.toList,rfl,by simp[D.iK]⟩
 ·rw[aJ hi];exact h1
theorem Ch.lO{α:Type}{s:gQ}{id t e:Nat}(f:α->D)(xs:List α)(ho:sat s id=.lO t e xs.length (jT f xs))(he:∀x,(gD (f x)).length=e):Ch s id (xs.map f):=
 .inr (.inl ⟨t,e,by rw[aS];exact ho,fun d hd=>by obtain⟨x,_,rfl⟩:=bF.1 hd;exact he x⟩)
theorem iB.RQ{α:Type}{k:Nat}{env:List AV}{s:gQ}(id:Nat){t e:Nat}(f:α->D)(xs:List α)(hid:k<=id)(ho:sat s id=.lO t e xs.length (jT f xs))(he:∀x,(gD (f x)).length=e):
 iB k env s (AV.pU id (xs.map f) env) (se id (xs.map f) s):=iB.RP id hid (.lO f xs ho he)
theorem ON{α:Type}{id e:Nat}{f:α->D}(he:∀x,(gD (f x)).length=e){xs:List α}:AV.nh id (xs.map f) (.mL e id xs.length)=.d (gN e f xs):=by
 simp only[AV.nh,aj];rw[aE ⟨by simp,fun d hd=>by obtain⟨x,_,rfl⟩:=bF.1 hd;exact he x⟩];rfl
theorem BV{id e j n:Nat}{ds:List D}(h:¬j=id):AV.nh id ds (.mL e j n)=.mL e j n:=by simp only[AV.nh,aJ h]
theorem JE{id e:Nat}{ds xs:List D}{u:Value}:AV.nh id ds (.nm u e xs)=.nm u e xs:=by simp only[AV.nh]
theorem DB{id j k off:Nat}{ds:List D}:AV.nh id ds (.mJ j k off)=if j=id then .iN else .mJ j k off:=by simp only[AV.nh]
def gx(k:Nat)(x:AV)(s:gQ)(y:AV)(t:gQ):Prop:=∀(C:Ctx)(β:gZ)(w:World)(v:Value),C.k=k->Inv C β s w->AV.ok β (C.gO β s) w x v->
 ∃β',Inv C β' t w/\AV.ok β' (C.gO β' t) w y v
theorem gx.refl{k:Nat}{x:AV}{s:gQ}:gx k x s x s:=fun _ β _ _ _ h1 h2=>⟨β,h1,h2⟩
theorem gx.trans{k:Nat}{x y z:AV}{s t u:gQ}(h1:gx k x s y t)(h2:gx k y t z u):gx k x s z u:=fun C β w v hC h3 h4=>let⟨β1,h5,h6⟩:=h1 C β w v hC h3 h4;h2 C β1 w v hC h5 h6
theorem gx.told{k:Nat}{x y:AV}{s t:gQ}(hx:AV.le x y)(hs:oN s t):gx k x s y t:=fun C β w v _ h3 h4=>by
 obtain⟨h1,hf⟩:=h3.told hs.sat;exact⟨β,h1,by rw[hf];exact hx _ _ _ _ h4⟩
theorem gx.iP{k:Nat}{x:AV}{s:gQ}(ids:List Nat)(hi:∀i∈ids,k<=i):gx k x s (iA ids x) (gJ ids s):=fun C β w v hC h3 h4=>by
 subst hC;obtain⟨β1,h1,h2⟩:=h3.iP hi;exact⟨β1,h1,h2 _ _ h4⟩
theorem gx.nh{k:Nat}{x:AV}{s:gQ}(id:Nat){ds:List D}(hid:k<=id)(ho:Ch s id ds):gx k x s (x.nh id ds) (se id ds s):=fun C β w v hC h3 h4=>by
 subst hC;exact⟨_,h3.nh hid ho,BX h3 ho _ _ h4⟩
theorem hY.done{P:Program}{f:Nat}{args:List AV}{s:gQ}{k:Nat}{y:AV}{t:gQ}(h:hY P f args s k fun x s'=>gx k x s' y t):hY P f args s k fun x s'=>x=y/\s'=t:=fun C vs h1 h2 h3 h4=>
 (h C vs h1 h2 h3 h4).mono fun _ w' ⟨v,_,β',_,e1,e2,e3,e4⟩=>let⟨β2,h5,h6⟩:=e4 C β' w' v h2 e2 e3;⟨v,y,β2,t,e1,h5,h6,rfl,rfl⟩
theorem lE.uw{P:Program}{f:Nat}{mc:gR}{n:Nat}{rs:List wE}(h:lE P f mc n rs){args:List AV}{s t:gQ}{k:Nat}{y:AV}
 (hm:sV P k mc (Dx rs fun x s'=>gx k x s' y t) (args++List.replicate (n-args.length) .iN) s):hY P f args s k fun x s'=>x=y/\s'=t:=hY.done (h.calls hm)
def ia(i j:Nat):Nat->Option Nat:=fun q=>if q=i then some j else if q=j then none else some q
def sB(i j:Nat)(β:gZ):gZ:=fun q=>if q=j then β i else if q=i then .no else β q
def iG(i j:Nat)(ob:Ob):gQ->gQ
 |[]=>[(j,ob)]
 |(q,x)::r=>if q=i\/q=j then iG i j ob r else(q,x.hG (ia i j))::iG i j ob r
theorem Ca(i j:Nat)(ob:Ob)(q:Nat):∀s:gQ,sat (iG i j ob s) q=if q=j then ob else if q=i then .dead else(sat s q).hG (ia i j)
 |[]=>by by_cases h:q=j<;>simp[iG,sat,h,Ob.hG]
 |(p,x)::r=>by
  simp only[iG];by_cases hp:p=i\/p=j
  ·rw[aE hp,Ca i j ob q r];by_cases h1:q=j
   ·simp[h1]
   ·by_cases h2:q=i
    ·simp[h2]
    ·have:q≠p:=by rintro rfl;exact hp.elim h2 h1
     simp only[h1,h2,ay,sat,this]
  ·rw[aJ hp];simp only[sat,Ca i j ob q r];by_cases h1:q=p
   ·subst h1;have h2:¬q=i:=fun e=>hp (.inl e)
    have h3:¬q=j:=fun e=>hp (.inr e)
    simp[h2,h3]
   ·simp[h1]
theorem Inv.XZ{C:Ctx}{β:gZ}{s s':gQ}{w:World}(h:Inv C β s w){i j:Nat}(hi:C.k<=i)(hj:C.k<=j)(hij:i≠j)(hd:sat s j=.dead)
 (hs:∀q,sat s' q=if q=j then(sat s i).hG (ia i j)else if q=i then .dead else(sat s q).hG (ia i j)):
 Inv C (sB i j β) s' w/\∀x v,AV.ok β (C.gO β s) w x v->AV.ok (sB i j β) (C.gO (sB i j β) s') w (x.hG (ia i j)) v:=by
 have from_:∀q,(q=i/\sat s' q=.dead)\/∃p,sat s' q=(sat s p).hG (ia i j)/\sB i j β q=β p/\(p=if q=j then i else q):=fun q=>by
  by_cases h1:q=j
  ·subst h1;exact .inr ⟨i,by rw[hs,aE rfl],by simp[sB],by simp⟩
  ·by_cases h2:q=i
   ·subst h2;exact .inl ⟨rfl,by rw[hs,aJ h1,aE rfl]⟩
   ·exact .inr ⟨q,by rw[hs,aJ h1,aJ h2],by simp[sB,h1,h2],by simp[h1]⟩
 have hown:∀b o,own (sB i j β) s' b o<->own β s b o:=fun b o=>by
  constructor
  ·rintro⟨q,hq⟩;rcases from_ q with⟨_,h1⟩|⟨p,h1,h2,_⟩
   ·rw[h1]at hq;exact hq.elim
   ·exact⟨p,(tT (i:=p) (j:=q) h2 h1).1 hq⟩
  ·rintro⟨p,hp⟩;by_cases h1:p=i
   ·subst h1;exact⟨j,(tT (i:=p) (j:=j) (ρ:=ia p j) (by simp[sB]) (by rw[hs,aE rfl])).2 hp⟩
   ·by_cases h2:p=j
    ·subst h2;rw[hd]at hp;exact hp.elim
    ·exact⟨p,(tT (i:=p) (j:=p) (ρ:=ia i j) (by simp[sB,h1,h2]) (by rw[hs,aJ h2,aJ h1])).2 hp⟩
 have hblk:∀q b,gy (sB i j β) s' q b->∃p,gy β s p b/\(p=if q=j then i else q)/\(q=j\/q≠i):=fun q b hq=>by
  rcases from_ q with⟨_,h1⟩|⟨p,h1,h2,h3⟩
  ·unfold gy at hq;rw[h1]at hq;exact hq.elim
  ·refine⟨p,(xC h2 h1).1 hq,h3,?_⟩;by_cases h4:q=j
   ·exact .inl h4
   ·refine .inr fun h5=>?_
    subst h5;unfold gy at hq;rw[hs,aJ h4,aE rfl]at hq;exact hq.elim
 have hf:C.gO (sB i j β) s'=C.gO β s:=by funext b o;exact propext (or_congr cN (hown b o))
 have hρ:∀a b,ia i j a=some b->sB i j β b=β a:=fun a b hab=>by
  unfold ia at hab;split at hab
  ·rename_i h1;cases hab;subst h1;simp[sB]
  ·split at hab
   ·cases hab
   ·rename_i h1 h2;cases hab;simp[sB,h1,h2]
 refine⟨⟨h.size,h.io,h.keep,h.vr,fun b o ho=>h.sK b o ((hown b o).1 ho),fun q b hb=>let⟨p,hp,_⟩:=hblk q b hb;h.uW p b hp,fun q hq=>?_,h.low,fun q=>?_,fun q q' b h1 h2=>?_⟩,
  fun x v hx=>by rw[hf];exact AV.xH hρ x v hx⟩
 ·have h1:q≠i:=by omega
  have h2:q≠j:=by omega
  simpa[sB,h1,h2]using h.pl q hq
 ·rw[hf];rcases from_ q with⟨h0,h1⟩|⟨p,h1,h2,_⟩
  ·rw[h1];subst h0;simp[vO,sB,hij]
  ·rw[h1];have ho:=h.obs p;cases hp:sat s p with
   |dead=>rw[hp]at ho;exact h2.trans ho
   |obj t cs=>rw[hp]at ho;obtain⟨b,vs,k1,k2,k3,k4⟩:=ho;exact⟨b,vs,h2.trans k1,k2,k3,k4.imp fun _ hx=>AV.xz hρ _ _ hx⟩
   |tok t e n=>rw[hp]at ho;obtain⟨u,k1,k2⟩:=ho;exact⟨u,h2.trans k1,k2⟩
   |lO t e n cs=>rw[hp]at ho;obtain⟨u,k1,k2⟩:=ho;exact⟨u,h2.trans k1,k2⟩
   |jj t e n cs=>
    rw[hp]at ho;obtain⟨u,bs,k1,k0,k2⟩:=ho;refine⟨u,bs,h2.trans k1,k0,?_⟩;show G9 _ _ _ _ _ _ _ _ (AV.gY _ cs);rw[lW];exact k2.imp (fun x v=>pL fun hx=>AV.xH hρ _ _ hx) (fun _ _=>rfl) (fun _ _ _=>rfl)
   |oU e n cs=>
    rw[hp]at ho;obtain⟨u,bs,k1,k0,k2⟩:=ho;refine⟨u,bs,h2.trans k1,k0,?_⟩;show AX _ _ _ _ _ _ _ (AV.gY _ cs);rw[lW];exact k2.imp (fun x v=>pL fun hx=>AV.xH hρ _ _ hx) (fun _ _=>rfl) (fun _ _ _ _=>rfl)
   |mp P k es=>rw[hp]at ho;obtain⟨b,k1,k2⟩:=ho;exact⟨b,h2.trans k1,k2⟩
 ·obtain⟨p,hp,e1,e2⟩:=hblk q b h1;obtain⟨p',hp',e3,e4⟩:=hblk q' b h2;have:=h.inj p p' b hp hp';subst this;rw[e1]at e3;by_cases h5:q=j<;>by_cases h6:q'=j<;>simp[h5,h6]at e3 e2 e4⊢<;>first|exact e3|exact absurd e3.symm e4|exact absurd e3 e2|skip
theorem gx.move{k:Nat}{x:AV}{s:gQ}(i j:Nat){ob:Ob}(hi:k<=i)(hj:k<=j)(hij:i≠j)(hd:sat s j=.dead)(ho:(sat s i).hG (ia i j)=ob):
 gx k x s (x.hG (ia i j)) (iG i j ob s):=fun C β w v hC h3 h4=>by
 subst hC;obtain⟨h5,h6⟩:=h3.XZ (s':=iG i j ob s) hi hj hij hd fun q=>by rw[Ca,ho]
 exact⟨_,h5,h6 x v h4⟩
class AL {α:Type} (f:α->D):Prop where
 one:∀x,gD (f x)=[f x]
instance:uK iD 1:=⟨fun _=>rfl⟩
instance:uK bD 1:=⟨fun _=>rfl⟩
instance{k:IntKind}:uK (kD k) 1:=⟨fun _=>rfl⟩
instance:uK sD 1:=⟨fun _=>rfl⟩
instance{α:Type}{e:Nat}{f:α->D}:uK (gN e f) 1:=⟨fun _=>rfl⟩
instance:AL iD:=⟨fun _=>rfl⟩
instance:AL bD:=⟨fun _=>rfl⟩
instance{k:IntKind}:AL (kD k):=⟨fun _=>rfl⟩
instance:AL sD:=⟨fun _=>rfl⟩
instance{α:Type}{e:Nat}{f:α->D}:AL (gN e f):=⟨fun _=>rfl⟩
section
variable{α:Type}[Inhabited α]{f:α->D}{e:Nat}{xs ys:List α}{i k n:Nat}{y:α}{d:D}{ds:List D}
theorem K3[uK f e](hi:i<xs.length)(hk:k<e):(jT f xs).getD (i*e+k) d=(gD (f (xs.getD i default))).getD k d:=Fj uK.len hi hk
theorem HN[uK f e](hi:i<xs.length)(hk:0<e):(jT f xs).getD (i*e) d=(gD (f (xs.getD i default))).getD 0 d:=Fj (k:=0) uK.len hi hk
theorem OU[uK f 1](hi:i<xs.length):(jT f xs).getD i d=(gD (f (xs.getD i default))).getD 0 d:=by have:=HN (f:=f) (e:=1) (d:=d) hi gu;rwa [Nat.mul_one]at this
omit [Inhabited α]in
theorem Gj[uK f e]:(jT f xs).length=xs.length*e:=zw uK.len xs
omit [Inhabited α]in
theorem OT:List.flatMap gD (List.map f ys)=jT f ys:=rfl
omit [Inhabited α]in
theorem RW:jT f xs++jT f ys=jT f (xs++ys):=Ct.symm
omit [Inhabited α]in
theorem K4[AL f]:jT f xs=xs.map f:=by
 induction xs with
 |nil=>rfl
 |cons x xs ih=>rw[uS,AL.one,ih];rfl
omit [Inhabited α]in
theorem Mm[AL f]:jT f xs++f y::ds=jT f (xs++[y])++ds:=by rw[Ct,uS,AL.one,HL,aI];rfl
omit [Inhabited α]in
theorem HO[AL f](hi:i<xs.length):List.take i (jT f xs)++f y::List.drop (i+1) (jT f xs)=jT f (xs.set i y):=by rw[K4,K4,eT,cL,aE (by simpa using hi)]
omit [Inhabited α]in
theorem Ml[AL f](hi:i<xs.length):List.take i (jT f xs)++[f y]++List.drop (i+1) (jT f xs)=jT f (xs.set i y):=by rw[aI];exact HO hi
omit [Inhabited α]in
theorem OM[uK f e]{id:Nat}:AV.nh id (xs.map f) (.mL e id xs.length)=.d (gN e f xs):=ON uK.len
omit [Inhabited α]in
theorem iB.RO[uK f e]{k0 t:Nat}{env:List AV}{s:gQ}(id:Nat)(f':α->D)(hf:f'=f)(xs:List α)(hid:k0<=id)(ho:sat s id=.lO t e xs.length (jT f xs)):
 iB k0 env s (AV.pU id (xs.map f') env) (se id (xs.map f') s):=by subst hf;exact iB.RQ id f' xs hid ho uK.len
omit [Inhabited α]in
theorem gx.Z0[uK f e]{k0 t:Nat}{x:AV}{s:gQ}(id:Nat)(f':α->D)(hf:f'=f)(xs:List α)(hid:k0<=id)(ho:sat s id=.lO t e xs.length (jT f xs)):
 gx k0 x s (x.nh id (xs.map f')) (se id (xs.map f') s):=by subst hf;exact gx.nh id hid (.lO f' xs ho uK.len)
end
attribute [go_sem] K3 HN OU Gj OT RW Mm HO Ml uS HL
attribute [go_sem] BV DB JE
theorem Ma{e id n:Nat}:AV.cells (.mL e id n)=some [.mL e id n]:=rfl
theorem Js{id k off:Nat}:AV.cells (.mJ id k off)=some [.mJ id k off]:=rfl
theorem Qn{e id n:Nat}{xs:List AV}:AV.rf (.mL e id n::xs)=none:=rfl
theorem M1{id k off:Nat}{xs:List AV}:AV.rf (.mJ id k off::xs)=none:=rfl
attribute [go_sem] Ma Js Qn M1 ia iG
theorem hY.Tk{P:Program}{f:Nat}{args:List AV}{s:gQ}{k:Nat}{z:AV}(h:hY P f args s k fun x s'=>∃y t,gx k x s' y t/\AV.le y z):hY P f args s k fun x _=>x=z:=fun C vs h1 h2 h3 h4=>
 (h C vs h1 h2 h3 h4).mono fun _ w' ⟨v,_,β',_,e1,e2,e3,_,t,e4,e5⟩=>let⟨β2,h5,h6⟩:=e4 C β' w' v h2 e2 e3;⟨v,z,β2,t,e1,h5,e5 _ _ _ _ h6,rfl⟩
theorem lE.X1{P:Program}{f:Nat}{mc:gR}{n:Nat}{rs:List wE}(h:lE P f mc n rs){args:List D}{r:D}
 (hm:sV P 0 mc (Dx rs fun x s'=>∃y t,gx 0 x s' y t/\AV.le y (.d r)) (args.map .d++List.replicate (n-(args.map AV.d).length) .iN) []):lz P f args r:=hY.Tk (h.calls hm)
theorem lE.U3{P:Program}{f:Nat}{mc:gR}{n:Nat}{rs:List wE}(h:lE P f mc n rs){args:List D}{ds:List D}
 (hm:sV P 0 mc (Dx rs fun x s'=>∃y t,gx 0 x s' y t/\AV.le y (.oz (ds.map .d))) (args.map .d++List.replicate (n-(args.map AV.d).length) .iN) []):ki P f args ds:=hY.Tk (h.calls hm)
section
variable{α:Type}{f:α->D}{e:Nat}{xs:List α}
theorem Ba[uK f e]{id n:Nat}(h:n=xs.length):AV.nh id (xs.map f) (.mL e id n)=.d (gN e f xs):=by subst h;exact OM
theorem iB.RR[uK f e]{k0 t n:Nat}{env:List AV}{s:gQ}{ds:List D}(id:Nat)(f':α->D)(hf:f'=f)(xs:List α)(hid:k0<=id)(ho:sat s id=.lO t e n ds)(hn:n=xs.length)(hs:ds=jT f xs):
 iB k0 env s (AV.pU id (xs.map f') env) (se id (xs.map f') s):=by subst hn;subst hs;exact iB.RO id f' hf xs hid ho
theorem gx.Z1[uK f e]{k0 t n:Nat}{x:AV}{s:gQ}{ds:List D}(id:Nat)(f':α->D)(hf:f'=f)(xs:List α)(hid:k0<=id)(ho:sat s id=.lO t e n ds)(hn:n=xs.length)(hs:ds=jT f xs):
 gx k0 x s (x.nh id (xs.map f')) (se id (xs.map f') s):=by subst hn;subst hs;exact gx.Z0 id f' hf xs hid ho
end
attribute [go_sem] Ba
theorem VU{d:D}{ds:List D}:List.flatMap gD (d::ds)=gD d++List.flatMap gD ds:=cn
theorem VV:List.flatMap gD []=[]:=rfl
attribute [go_sem] VU VV
def iu{α:Type}(t:Prop)(x:Option α)(P:α->Prop):Prop:=(∀a,x=some a->P a)/\(t->∃a,x=some a)
theorem iu.some{α:Type}{t:Prop}{a:α}{P:α->Prop}(h:P a):iu t (Option.some a) P:=⟨fun b hb=>by cases hb;exact h,fun _=>⟨a,rfl⟩⟩
theorem iu.bind{α β:Type}{t:Prop}{x:Option α}{f:α->Option β}{P:α->Prop}{Q:β->Prop}(h:iu t x P)(hf:∀a,P a->iu t (f a) Q):iu t (x.bind f) Q:=
 ⟨fun b hb=>let⟨a,h1,h2⟩:=ai.1 hb;(hf a (h.1 a h1)).1 b h2,fun ht=>by
  obtain⟨a,ha⟩:=h.2 ht;obtain⟨b,hb⟩:=(hf a (h.1 a ha)).2 ht;exact⟨b,by rw[ha,aa,hb]⟩⟩
theorem iu.need{α:Type}{t p:Prop}[Decidable p]{x:Option α}{P:α->Prop}(hp:p)(h:iu t x P):iu t (if p then x else none) P:=by rw[aE hp];exact h
theorem iu.ite{α:Type}{t:Prop}{c:Bool}{x y:Option α}{P:α->Prop}(h1:c=true->iu t x P)(h2:c=false->iu t y P):iu t (if c=true then x else y) P:=by
 cases c with
 |true=>simpa using h1 rfl
 |false=>simpa using h2 rfl
theorem iu.weak{α:Type}{t t':Prop}{x:Option α}{P:α->Prop}(h:iu t x P)(ht:t'->t):iu t' x P:=⟨h.1,fun hx=>h.2 (ht hx)⟩
theorem iu.inr{σ β:Type}{t:Prop}{x:Option β}{P:σ⊕β->Prop}(h:iu t x fun b=>P (.inr b)):iu t (x.map Sum.inr) P:=
 ⟨fun a ha=>by
  cases x with
  |none=>cases ha
  |some b=>cases ha;exact h.1 b rfl,fun ht=>let⟨a,ha⟩:=h.2 ht;⟨.inr a,by rw[ha];rfl⟩⟩
theorem iu.eq{α:Type}{x:Option α}{a:α}(h:iu True x (·=a)):x=Option.some a:=by obtain⟨b,hb⟩:=h.2 trivial;rw[hb,h.1 b hb]
theorem iu.get{α:Type}{x:Option α}{P:α->Prop}(h:iu True x P):∃a,x=Option.some a/\P a:=by obtain⟨b,hb⟩:=h.2 trivial;exact⟨b,hb,h.1 b hb⟩
theorem iu.S8{α β:Type}{t:Prop}{xs:List α}{a b:Option β}{P:β->Prop}(h:iu t b P)(he:xs=[]->a=b):iu t (LQ xs a b) P:=by
 unfold LQ;split
 ·rename_i hx;rw[aE (he hx)];exact h
 ·exact h
def wj{σ β:Type}(inv:σ->Prop)(μ:σ->Nat)(Q:β->Prop)(m:Nat):σ⊕β->Prop
 |.inl s'=>inv s'/\μ s'<m
 |.inr b=>Q b
theorem iu.loop{σ β:Type}{t:Prop}{f:σ->Option (σ⊕β)}{Q:β->Prop}(inv:σ->Prop)(μ:σ->Nat){s:σ}(h0:inv s)(h:∀s,inv s->iu t (f s) (wj inv μ Q (μ s))):iu t (gI f s) Q:=by
 constructor
 ·intro b hb;obtain⟨n,hn⟩:=tf hb;clear hb;induction n generalizing s with
  |zero=>exact hn.elim
  |succ n ih=>
   rcases hn with hn|⟨s',hs,hn⟩
   ·exact(h s h0).1 _ hn
   ·exact ih ((h s h0).1 _ hs).1 hn
 ·intro ht;have key:∀n s,μ s=n->inv s->∃b,gI f s=Option.some b:=by
   intro n;induction n using Nat.strongRecOn with
   |_ n ih=>
    intro s hn hs;obtain⟨r,hr⟩:=(h s hs).2 ht;have:=(h s hs).1 r hr;cases r with
    |inl s'=>obtain⟨b,hb⟩:=ih (μ s') (hn▸this.2) s' rfl this.1;exact⟨b,by rw[jN hr,hb]⟩
    |inr b=>exact⟨b,hU hr⟩
  exact key _ s rfl h0
theorem iu.Yx{α:Type}{t:Prop}{f:Nat->Option α}{P:α->Prop}(m:Nat)(h:∀n,iu (m<=n) (f n) P):iu t (AA f) P:=by
 constructor
 ·intro a ha;obtain⟨n,hn⟩:=rY ha;exact(h n).1 a hn
 ·intro _;obtain⟨a,ha⟩:=(h m).2 (aO _);have hx:∃a n,f n=Option.some a:=⟨a,m,ha⟩;unfold AA;rw[dif_pos hx];exact⟨_,rfl⟩
def Ad{α:Type}(e:Nat)(f:α->D)(xs:List α):D:=.sl e (some xs.isEmpty) (xs.map f)
section
variable{α:Type}{e id:Nat}{f:α->D}{xs:List α}{O:Own}{w:World}
theorem SH:rM (.d (Ad e f xs))=some (e,xs.map f):=rfl
theorem Si:y_ (.d (Ad e f xs))=some xs.isEmpty:=rfl
theorem Md:AV.cells (.d (Ad e f xs))=some [.d (Ad e f xs)]:=rfl
theorem I7:AV.ni (.d (Ad e f xs))=none:=rfl
theorem Jx:gD (Ad e f xs)=[Ad e f xs]:=rfl
theorem DL.nz(h:0<xs.length):DL (gN e f xs) (Ad e f xs):=fun O w v hv=>by
 simp only[gN,Ad,D.ok]at hv⊢;obtain⟨a,cap,h1,h2,_,h4⟩:=hv;refine⟨a,cap,h1,h2,?_,h4⟩;have hne:xs≠[]:=bT.1 h;have he:xs.isEmpty=false:=by simpa using hne
 rcases h4 with h4|⟨b,o,rfl,_⟩
 ·exact absurd (List.map_eq_nil_iff.1 h4) hne
 ·simp[LM,he]
theorem DL.PJ:DL (Ad e f xs) (gN e f xs):=DL.forget
theorem DL.U1{e':Nat}:DL (.sl e' (some true) []) (Ad e f []):=fun O w v hv=>by
 simp only[Ad,D.ok,dz]at hv⊢;obtain⟨a,cap,h1,h2,h3,h4⟩:=hv;exact⟨a,cap,h1,h2,h3,.inl trivial⟩
theorem K8(h:0<xs.length):AV.le (.d (gN e f xs)) (.d (Ad e f xs))<->True:=⟨fun _=>trivial,fun _=>AV.wT (DL.nz h)⟩
theorem JO(h:0<xs.length):AV.le (.own e id (xs.map f)) (.d (Ad e f xs))<->True:=⟨fun _=>trivial,fun _=>AV.R6 fun O w v hv=>DL.nz h O w v hv⟩
theorem DM{e':Nat}:AV.le (.d (.sl e' (some true) [])) (.d (Ad e f []))<->True:=⟨fun _=>trivial,fun _=>AV.wT DL.U1⟩
theorem Fo:AV.le (.d (Ad e f xs)) (.d (gN e f xs))<->True:=⟨fun _=>trivial,fun _=>AV.wT DL.PJ⟩
end
theorem PU{α:Type}{e e':Nat}{f:α->D}{O:Own}{w:World}{b:Nat}:∀{o:Nat}{xs:List (List α)},D.row O w b o e (xs.map (Ad e' f))->D.row O w b o e (xs.map (gN e' f))
 |_,[],h=>h
 |o,x::xs,h=>by
  simp only[aT,Ad,gN,D.row]at h⊢;obtain⟨⟨v,h1,h2,h3⟩,h4⟩:=h;exact⟨⟨v,h1,h2,DL.PJ _ _ _ h3⟩,PU h4⟩
theorem DL.Yk{α:Type}{e e':Nat}{f:α->D}{nl:Option Bool}{xs:List (List α)}:DL (.sl e nl (xs.map (Ad e' f))) (.sl e none (xs.map (gN e' f))):=fun O w v hv=>by
 simp only[D.ok,aS,List.map_eq_nil_iff]at hv⊢;obtain⟨a,cap,h1,h2,_,h4⟩:=hv;refine⟨a,cap,h1,h2,trivial,h4.imp (fun h=>h) ?_⟩;rintro⟨b,o,h5,h6⟩;exact⟨b,o,h5,PU h6⟩
instance{α:Type}{e:Nat}{f:α->D}:uK (Ad e f) 1:=⟨fun _=>rfl⟩
instance{α:Type}{e:Nat}{f:α->D}:AL (Ad e f):=⟨fun _=>rfl⟩
theorem jr.set:∀{xs:List AV}{i:Nat}{a b:AV},AV.le a b->jr (xs.set i a) (xs.set i b)
 |[],_,_,_,_=>trivial
 |_::xs,0,_,_,h=>⟨h,.refl xs⟩
 |x::_,i+1,_,_,h=>⟨AV.le_refl x,jr.set h⟩
theorem R_{α:Type}{f:α->D}{xs:List α}{i:Nat}{a:AV}{v:α}(h:i<xs.length)(hle:AV.le a (.d (f v))):
 jr (List.take i (xs.map (aD f))++(a::List.drop (i+1) (xs.map (aD f)))) ((xs.set i v).map (aD f)):=by
 have e1:List.take i (xs.map (aD f))++(a::List.drop (i+1) (xs.map (aD f)))=(xs.map (aD f)).set i a:=by rw[cL,aE (by simpa using h)]
 rw[e1,eT];exact jr.set hle
attribute [go_sem] SH Si Md I7 Jx Fo DM
theorem nD{α β:Type}{f:α->β}{l:List α}{n:Nat}:List.take n (List.map f l)=List.map f (List.take n l):=List.map_take.symm
theorem nB{α β:Type}{f:α->β}{l:List α}{n:Nat}:List.drop n (List.map f l)=List.map f (List.drop n l):=List.map_drop.symm
theorem oQ{α:Type}{l:List α}{n:Nat}(h:l.length<=n):List.take n l=l:=bM h
theorem oO{α:Type}{l:List α}{n:Nat}(h:l.length<=n):List.drop n l=[]:=bU h
theorem IC:oN [] []:=trivial
theorem EI{i:Nat}{x y:Ob}{r r':gQ}(h:yp x y)(hr:oN r r'):oN ((i,x)::r) ((i,y)::r'):=⟨rfl,h,hr⟩
theorem Pb{α:Type}{f:α->D}{xs:List α}{i:Nat}{a:AV}{v:α}(h:i<xs.length)(hle:AV.le a (.d (f v))):
 jr (List.map (aD f) (List.take i xs)++[a]++List.map (aD f) (List.drop (i+1) xs)) ((xs.set i v).map (aD f)):=by
 have:=R_ (f:=f) (xs:=xs) (i:=i) (a:=a) (v:=v) h hle;rw[aI];simpa only[List.map_take,List.map_drop,bH,bl]using this
theorem Tl:jr [] []:=trivial
theorem RL{x y:AV}{xs ys:List AV}(h:AV.le x y)(h':jr xs ys):jr (x::xs) (y::ys):=⟨h,h'⟩
theorem Uw:ri [] []:=trivial
theorem Uv{x y:D}{xs ys:List D}(h:D.le x y)(h':ri xs ys):ri (x::xs) (y::ys):=⟨h,h'⟩
theorem yy{e e':Nat}{nl:Option Bool}:D.le (.sl e nl []) (.sl e' none []):=fun O w vs h=>by
 simp only[D.IZ]at h⊢;obtain⟨v,h1,h2⟩:=h;exact⟨v,h1,DL.nil _ _ _ h2⟩
theorem td{e:Nat}{nl:Option Bool}{xs:List D}:D.le (.sl e nl xs) (.sl e none xs):=fun O w vs h=>by
 simp only[D.IZ]at h⊢;obtain⟨v,h1,h2⟩:=h;exact⟨v,h1,DL.forget _ _ _ h2⟩
theorem yx{xs ys:List D}(h:Uf xs ys):D.le (.agg xs) (.agg ys):=fun O w vs hv=>by
 simp only[D.IZ]at hv⊢;exact h.iK hv
theorem JP{α:Type}{e:Nat}{f:α->D}{xs:List α}:AV.le (.d (Ad e f xs)) (.d (.sl e none (xs.map f)))<->True:=⟨fun _=>trivial,fun _=>AV.wT DL.PJ⟩
theorem JR{α:Type}{e e':Nat}{f:α->D}{xs:List (List α)}:AV.le (.d (.sl e none (xs.map (Ad e' f)))) (.d (.sl e none (xs.map (gN e' f))))<->True:=⟨fun _=>trivial,fun _=>AV.wT DL.Yk⟩
attribute [go_sem] JP JR
theorem Wv{α:Type}{x:AV}{f:α->D}{v:α}:AV.le x (aD f v)=AV.le x (.d (f v)):=(rfl)
theorem Ls{α:Type}{f:α->D}{xs:List α}{i:Nat}{v:α}(h:i<xs.length):List.map (aD f) (List.take i xs)++(AV.d (f v)::List.map (aD f) (List.drop (i+1) xs))=(xs.set i v).map (aD f):=by rw[List.map_take,List.map_drop];exact P7 h
theorem P8{α:Type}{f:α->D}{xs:List α}{i:Nat}{v:α}(h:i<xs.length):List.map (aD f) (List.take i xs)++[AV.d (f v)]++List.map (aD f) (List.drop (i+1) xs)=(xs.set i v).map (aD f):=by rw[aI];exact Ls h
attribute [go_sem] Wv Ls P8
theorem iL{p q:Prop}(hq:q)(h:p=q:=by first|((conv=>lhs;simp(maxSteps:=1000000) (disch:=omega)only[go_sem,nD,nB,oQ,oO,bZ,bh,bl,Nat.reduceAdd,Nat.reduceSub,Nat.reduceLeDiff,Nat.reduceEqDiff,Nat.reduceLT,Int.reduceToNat,reduceIte,reduceCtorEq])<;>rfl)|rfl):p:=h▸hq
theorem Yo{c p q:Prop}(hc:c)(hq:q)(h:p=q:=by first|((conv=>lhs;simp(maxSteps:=1000000) (disch:=omega)only[go_sem,nD,nB,oQ,oO,bZ,bh,bl,Nat.reduceAdd,Nat.reduceSub,Nat.reduceLeDiff,Nat.reduceEqDiff,Nat.reduceLT,Int.reduceToNat,reduceIte,reduceCtorEq,hc])<;>rfl)|rfl):p:=h▸hq
theorem lC{p:Prop}(h:p:=by first|(simp only[go_sem,gN,aP,List.map_take,List.map_drop,aI,Nat.reduceAdd,Nat.reduceSub,Nat.reduceLeDiff,Nat.reduceEqDiff,Nat.reduceLT,reduceIte,reduceCtorEq];done)|((try simp only[go_sem,gN,aP,List.map_take,List.map_drop,aI,Nat.reduceAdd,Nat.reduceSub,Nat.reduceLeDiff,Nat.reduceEqDiff,Nat.reduceLT,reduceIte,reduceCtorEq];repeat' (first|exact AV.le_refl _|refine And.intro ?_ ?_|refine AV.zx ?_|refine AV.xp ?_|refine AV.Az ?_|refine AV.wT (DL.agg ?_)|exact Tl|exact IC|refine RL ?_ ?_|refine EI ?_ ?_|exact Uw|refine Uv ?_ ?_|exact tg (AV.wT DL.nil) _|exact D.le_refl _|exact yy|exact td|refine yx ?_|(simp only[go_sem,gN,aP,List.map_take,List.map_drop,aI,Nat.reduceAdd,Nat.reduceSub,Nat.reduceLeDiff,Nat.reduceEqDiff,Nat.reduceLT,reduceIte,reduceCtorEq];done)|refine ri.append (ri.refl _) ?_|refine AV.uU ?_|refine AV.DN ?_|omega));done)):p:=h
section
variable{P:Program}{k0 f:Nat}{args env:List AV}{s:gQ}{d:Option Nat}{R:List AV->gQ->Prop}{F:List (List Nat×List Nat)->List AV->gQ->Prop}{ms:List js}{acc:List (List Nat×List Nat)}{foot:List Nat}
end
theorem wk{k:Nat}{env env':List AV}{s s':gQ}(h:jr env env':=by first|(simp only[go_sem,gN,aP,List.map_take,List.map_drop,aI,Nat.reduceAdd,Nat.reduceSub,Nat.reduceLeDiff,Nat.reduceEqDiff,Nat.reduceLT,reduceIte,reduceCtorEq];done)|((try simp only[go_sem,gN,aP,List.map_take,List.map_drop,aI,Nat.reduceAdd,Nat.reduceSub,Nat.reduceLeDiff,Nat.reduceEqDiff,Nat.reduceLT,reduceIte,reduceCtorEq];repeat' (first|exact AV.le_refl _|refine And.intro ?_ ?_|refine AV.zx ?_|refine AV.xp ?_|refine AV.Az ?_|refine AV.wT (DL.agg ?_)|exact Tl|exact IC|refine RL ?_ ?_|refine EI ?_ ?_|exact Uw|refine Uv ?_ ?_|exact tg (AV.wT DL.nil) _|exact D.le_refl _|exact yy|exact td|refine yx ?_|(simp only[go_sem,gN,aP,List.map_take,List.map_drop,aI,Nat.reduceAdd,Nat.reduceSub,Nat.reduceLeDiff,Nat.reduceEqDiff,Nat.reduceLT,reduceIte,reduceCtorEq];done)|refine ri.append (ri.refl _) ?_|refine AV.uU ?_|refine AV.DN ?_|omega));done))(hs:oN s s':=by first|(simp only[go_sem,gN,aP,List.map_take,List.map_drop,aI,Nat.reduceAdd,Nat.reduceSub,Nat.reduceLeDiff,Nat.reduceEqDiff,Nat.reduceLT,reduceIte,reduceCtorEq];done)|((try simp only[go_sem,gN,aP,List.map_take,List.map_drop,aI,Nat.reduceAdd,Nat.reduceSub,Nat.reduceLeDiff,Nat.reduceEqDiff,Nat.reduceLT,reduceIte,reduceCtorEq];repeat' (first|exact AV.le_refl _|refine And.intro ?_ ?_|refine AV.zx ?_|refine AV.xp ?_|refine AV.Az ?_|refine AV.wT (DL.agg ?_)|exact Tl|exact IC|refine RL ?_ ?_|refine EI ?_ ?_|exact Uw|refine Uv ?_ ?_|exact tg (AV.wT DL.nil) _|exact D.le_refl _|exact yy|exact td|refine yx ?_|(simp only[go_sem,gN,aP,List.map_take,List.map_drop,aI,Nat.reduceAdd,Nat.reduceSub,Nat.reduceLeDiff,Nat.reduceEqDiff,Nat.reduceLT,reduceIte,reduceCtorEq];done)|refine ri.append (ri.refl _) ?_|refine AV.uU ?_|refine AV.DN ?_|omega));done)):iB k env s env' s':=iB.Z9 h hs
theorem gx.Ws{α:Type}{k:Nat}{x:AV}{s:gQ}(id:Nat){t:Nat}(f:α->D)[AL f](xs:List α)(hid:k<=id)(ho:sat s id=.obj t (xs.map (aD f))):
 gx k x s (x.nh id (xs.map f)) (se id (xs.map f) s):=
 gx.nh id hid (.inl ⟨t,by rw[ho,JX],fun d h=>by obtain⟨x,_,rfl⟩:=bF.1 h;exact AL.one x⟩)
theorem gx.Z2{α:Type}{k:Nat}{x:AV}{s:gQ}(id:Nat){t e:Nat}(f:α->D)[uK f e](xs:List α)(hid:k<=id)(ho:sat s id=.obj t ((jT f xs).map .d))(he:e≠1)(hx:xs≠[]):
 gx k x s (x.nh id (xs.map f)) (se id (xs.map f) s):=
 gx.nh id hid (.inr (.inr (.inl ⟨t,e,by rw[ho];rfl,fun d hd=>by obtain⟨x,_,rfl⟩:=bF.1 hd;exact uK.len x,he,by simpa using hx⟩)))
theorem q_{p:Prop}(h:p:=by(try simp(disch:=first|omega|(simp only[au,aK,bB,cZ,aS,dG,Nat.reduceAdd]<;>fail)|fail)only[iA,AV.hG,AV.gY,ia,gC,Gi,Gf,BY,DE,Bb,DD,BW,Ba,BV,OK,DC,Gg,JD,JF,Gh,DB,JE]);first|(simp only[go_sem,gN,aP,List.map_take,List.map_drop,aI,Nat.reduceAdd,Nat.reduceSub,Nat.reduceLeDiff,Nat.reduceEqDiff,Nat.reduceLT,reduceIte,reduceCtorEq];done)|((try simp only[go_sem,gN,aP,List.map_take,List.map_drop,aI,Nat.reduceAdd,Nat.reduceSub,Nat.reduceLeDiff,Nat.reduceEqDiff,Nat.reduceLT,reduceIte,reduceCtorEq];repeat' (first|exact AV.le_refl _|refine And.intro ?_ ?_|refine AV.zx ?_|refine AV.xp ?_|refine AV.Az ?_|refine AV.wT (DL.agg ?_)|exact Tl|exact IC|refine RL ?_ ?_|refine EI ?_ ?_|exact Uw|refine Uv ?_ ?_|exact tg (AV.wT DL.nil) _|exact D.le_refl _|exact yy|exact td|refine yx ?_|(simp only[go_sem,gN,aP,List.map_take,List.map_drop,aI,Nat.reduceAdd,Nat.reduceSub,Nat.reduceLeDiff,Nat.reduceEqDiff,Nat.reduceLT,reduceIte,reduceCtorEq];done)|refine ri.append (ri.refl _) ?_|refine AV.uU ?_|refine AV.DN ?_|omega));done)):p:=h
theorem Vr{p q:Prop}(hq:q)(h:p=q:=by first|((conv=>lhs;simp(disch:=first|omega|(simp only[au,aK,bB,cZ,aS,dG,Nat.reduceAdd]<;>fail)|fail)only[Gi,Gf,BY,DE,Bb,DD,BW,Ba,BV,OK,DC,Gg,JD,JF,Gh,DB,JE])<;>rfl)|rfl):p:=h▸hq
section
variable{α:Type}{f:α->D}{e:Nat}
theorem gx.fz[uK f e]{k0 t n:Nat}{x:AV}{s:gQ}{ds:List D}(id:Nat)(f':α->D)(hf:f'=f)(xs:List α)(ho:sat s id=.lO t e n ds:=by exact rfl)(hid:k0<=id:=by omega)(hn:n=xs.length:=by simp)
 (hs:ds=jT f xs:=by first|rfl|simp only[go_sem,gN,aP,List.map_take,List.map_drop,aI,Nat.reduceAdd,Nat.reduceSub,Nat.reduceLeDiff,Nat.reduceEqDiff,Nat.reduceLT,reduceIte,reduceCtorEq]):gx k0 x s (x.nh id (xs.map f')) (se id (xs.map f') s):=gx.Z1 id f' hf xs hid ho hn hs
theorem iB.fz[uK f e]{k0 t n:Nat}{env:List AV}{s:gQ}{ds:List D}(id:Nat)(f':α->D)(hf:f'=f)(xs:List α)(ho:sat s id=.lO t e n ds:=by exact rfl)(hid:k0<=id:=by omega)(hn:n=xs.length:=by simp)
 (hs:ds=jT f xs:=by first|rfl|simp only[go_sem,gN,aP,List.map_take,List.map_drop,aI,Nat.reduceAdd,Nat.reduceSub,Nat.reduceLeDiff,Nat.reduceEqDiff,Nat.reduceLT,reduceIte,reduceCtorEq]):iB k0 env s (AV.pU id (xs.map f') env) (se id (xs.map f') s):=iB.RR id f' hf xs hid ho hn hs
end
section
variable{P:Program}{k:Nat}{Q:Post}{env:List AV}{s:gQ}
end
section
attribute [local irreducible] xL zb yK oW pM sV pO Er FY CG FX Cg yg pT rE EZ jr oN
end
section
attribute [local irreducible] xL zb yK oW pM sV pO Er FY CG FX Cg yg pT rE EZ jr oN
end
def TL(nid:Nat)(x y:AV):Prop:=∀(β:gZ)(O:Own)(w:World)(v:Value),β nid=.tok uE 0->AV.ok β O w x v->AV.ok β O w y v
def QF(nid:Nat)(xs ys:List AV):Prop:=∀(β:gZ)(O:Own)(w:World)(vs:List Value),β nid=.tok uE 0->AV.iK β O w xs vs->AV.iK β O w ys vs
theorem TL.refl{nid:Nat}{x:AV}:TL nid x x:=fun _ _ _ _ _ h=>h
theorem QF.nil{nid:Nat}:QF nid [] []:=fun _ _ _ _ _ h=>h
theorem QF.cons{nid:Nat}{x y:AV}{xs ys:List AV}(h:TL nid x y)(hs:QF nid xs ys):QF nid (x::xs) (y::ys):=fun β O w vs hb hv=>by
 simp only[AV.iK]at hv⊢;obtain⟨v,r,h1,h2,h3⟩:=hv;exact⟨v,r,h1,h β O w v hb h2,hs β O w r hb h3⟩
theorem TL.nil{nid e e0:Nat}:TL nid (.d (.sl e0 (some true) [])) (.mL e nid 0):=fun β O w v hb hv=>by
 simp only[AV.ok]at hv⊢;have:=B7 hv;subst this;exact⟨_,_,by rw[hb];exact⟨rfl,rfl⟩,aO _,fun _=>rfl,.inl ⟨none,rfl,trivial⟩⟩
theorem TL.oz{nid:Nat}{xs ys:List AV}(h:QF nid xs ys):TL nid (.oz xs) (.oz ys):=fun β O w v hb hv=>by
 simp only[AV.ok]at hv⊢;obtain⟨vs,h1,h2⟩:=hv;exact⟨vs,h1,h β O w _ hb h2⟩
theorem TL.agg{nid:Nat}{xs ys:List AV}(h:QF nid xs ys):TL nid (.agg xs) (.agg ys):=fun β O w v hb hv=>by
 simp only[AV.ok]at hv⊢;obtain⟨vs,h1,h0,h2⟩:=hv;exact⟨vs,h1,h0,h β O w _ hb h2⟩
theorem EY{O:Own}{w:World}:∀{xs:List D}{vs:List Value},D.iK O w xs vs->∀u∈vs,one u=true
 |[],vs,h=>by simp[D.iK]at h;subst h;simp
 |x::xs,vs,h=>by
  simp only[D.iK]at h;obtain⟨v,r,rfl,h1,_,h3⟩:=h;intro u hu;rcases bt.1 hu with rfl|hu
  ·exact h1
  ·exact EY h3 u hu
theorem TL.YE{nid:Nat}{ds:List D}{ys:List AV}(h:QF nid (ds.map .d) ys):TL nid (.d (.agg ds)) (.agg ys):=fun β O w v hb hv=>by
 simp only[AV.ok,D.ok]at hv⊢;obtain⟨vs,h1,h2⟩:=hv;exact⟨vs,h1,EY h2,h β O w _ hb (Hv h2)⟩
theorem gx.Qg{k:Nat}{x:AV}{s:gQ}(nid t e:Nat)(y:AV)(hd:sat s nid=.dead)(hxy:TL nid x y):gx k x s y (sset (sset s nid (.tok t e 0)) nid (.lO t e 0 [])):=fun C β w v hC hi hx=>by
 have hst:St C β [] s {tmps:=#[],defers:=[]} w:=⟨.nil,hi,rfl,fun i x hx=>by simp at hx⟩;obtain⟨h1,m⟩:=hst.Ee (id:=nid) (t:=t) (e:=e) hd;obtain⟨h2,hf⟩:=h1.inv.Ys (id:=nid) (by rw[iE,aE rfl]);exact⟨_,h2,by rw[hf];exact hxy _ _ _ _ (by simp[gG]) (m.ok hx)⟩
def sq:Nat->List tM->List js
 |_,[]=>[]
 |n,x::xs=>⟨some n,x,none⟩::sq (n+1) xs
def sg(g:Nat)(b:Bool):Nat->List tM->List js
 |_,[]=>[]
 |n,x::xs=>⟨some n,x,some (some g,b)⟩::sg g b (n+1) xs
def s0(x:tM):List js:=[⟨none,x,none⟩]
def t0(n:Nat):Operand:=.tmp n
def i0(n:Int):Operand:=.const (.int .i64 n)
def VE:List Nat->List Operand
 |[]=>[]
 |n::ns=>.tmp n::VE ns
def mv(n:Nat):tM:=.mv (.tmp n)
def mi(n:Int):tM:=.mv (.const (.int .i64 n))
def mb(b:Bool):tM:=.mv (.const (.bool b))
def ld(n:Nat):tM:=.load 1 false (.tmp n)
def la(e n:Nat):tM:=.load e true (.tmp n)
def fa(o n:Nat):tM:=.QZ o (.tmp n)
def cf(f:Nat)(ns:List Nat):tM:=.ji f (VE ns)
def pa(a b:Nat):tM:=.pick (.tmp a) (.tmp b) (.const (.bool false))
def po(a b:Nat):tM:=.pick (.tmp a) (.const (.bool true)) (.tmp b)
def bn(o:BinOp)(a b:Nat):tM:=.bin o (.tmp a) (.tmp b)
def bi(o:BinOp)(a:Nat)(n:Int):tM:=.bin o (.tmp a) (.const (.int .i64 n))
def nt(n:Nat):tM:=.un .not (.tmp n)
def ln(n:Nat):tM:=.len (.tmp n)
def ex(n i:Nat):tM:=.ext (.tmp n) i
def ix(e a b:Nat):tM:=.CY e (.tmp a) (.tmp b)
def bo(d t n:Nat):tM:=.box d t (.tmp n)
def ap(d t e b x y:Nat):tM:=.app d t e b (.tmp x) (.tmp y)
def sr(n a b:Nat):tM:=.store n (.tmp a) (.tmp b)
theorem aaq{n:Nat}:sq n []=[]:=(rfl)
theorem aap{n:Nat}{x:tM}{xs:List tM}:sq n (x::xs)=⟨some n,x,none⟩::sq (n+1) xs:=(rfl)
theorem aao{g:Nat}{b:Bool}{n:Nat}:sg g b n []=[]:=(rfl)
theorem aan{g:Nat}{b:Bool}{n:Nat}{x:tM}{xs:List tM}:sg g b n (x::xs)=⟨some n,x,some (some g,b)⟩::sg g b (n+1) xs:=(rfl)
theorem aam{x:tM}:s0 x=[⟨none,x,none⟩]:=(rfl)
theorem aas{n:Nat}:t0 n=.tmp n:=(rfl)
theorem Z3{n:Int}:i0 n=.const (.int .i64 n):=(rfl)
theorem Yr:VE []=[]:=(rfl)
theorem Yq{n:Nat}{ns:List Nat}:VE (n::ns)=.tmp n::VE ns:=(rfl)
theorem aaf{n:Nat}:mv n=.mv (.tmp n):=(rfl)
theorem aae{n:Int}:mi n=.mv (.const (.int .i64 n)):=(rfl)
theorem aad{b:Bool}:mb b=.mv (.const (.bool b)):=(rfl)
theorem Z8{n:Nat}:ld n=.load 1 false (.tmp n):=(rfl)
theorem Z7{e n:Nat}:la e n=.load e true (.tmp n):=(rfl)
theorem YL{o n:Nat}:fa o n=.QZ o (.tmp n):=(rfl)
theorem YJ{f:Nat}{ns:List Nat}:cf f ns=.ji f (VE ns):=(rfl)
theorem aai{a b:Nat}:pa a b=.pick (.tmp a) (.tmp b) (.const (.bool false)):=(rfl)
theorem aaj{a b:Nat}:po a b=.pick (.tmp a) (.const (.bool true)) (.tmp b):=(rfl)
theorem YH{o:BinOp}{a b:Nat}:bn o a b=.bin o (.tmp a) (.tmp b):=(rfl)
theorem YG{o:BinOp}{a:Nat}{n:Int}:bi o a n=.bin o (.tmp a) (.const (.int .i64 n)):=(rfl)
theorem aag{n:Nat}:nt n=.un .not (.tmp n):=(rfl)
theorem aab{n:Nat}:ln n=.len (.tmp n):=(rfl)
theorem YK{n i:Nat}:ex n i=.ext (.tmp n) i:=(rfl)
theorem Z6{e a b:Nat}:ix e a b=.CY e (.tmp a) (.tmp b):=(rfl)
theorem YI{d t n:Nat}:bo d t n=.box d t (.tmp n):=(rfl)
theorem YF{d t e b x y:Nat}:ap d t e b x y=.app d t e b (.tmp x) (.tmp y):=(rfl)
theorem aar{n a b:Nat}:sr n a b=.store n (.tmp a) (.tmp b):=(rfl)
attribute [go_sem] aaq aap aao aan aam aas Z3 Yr Yq aaf aae aad Z8 Z7 YL YJ aai aaj YH YG aag aab YK Z6 YI YF aar
class iH {α:Type} (x:Option α) (Q:outParam (α->Prop)):Prop where
 c:∀{r:α},x=some r->Q r
def T7{α β:Type}(x:Option α)(K:α->Option β)(r:β):Prop:=x.bind K=some r
def Ite{α:Type}(c:Bool)(a b:Option α)(r:α):Prop:=(if c=true then a else b)=some r
def Nds{α:Type}(p:Prop)(a:Option α)(r:α):Prop:=p/\a=some r
theorem toB{α β:Type}{x:Option α}{K:α->Option β}{r:β}(h:x.bind K=some r):T7 x K r:=h
theorem toI{α:Type}{c:Bool}{a b:Option α}{r:α}(h:(if c=true then a else b)=some r):Ite c a b r:=h
theorem toN{α:Type}{p:Prop}[Decidable p]{a:Option α}{r:α}(h:(if p then a else none)=some r):Nds p a r:=uV h
theorem toE{α:Type}{x r:α}(h:some x=some r):x=r:=er h
theorem toF{α:Type}{r:α}(h:none=some r):False:=by cases h
theorem it{α:Type}{c:Bool}{a b:Option α}{r:α}{p q1 q2:Prop}(h:Ite c a b r)(k1:c=true->a=some r->q1)(k2:c=false->b=some r->q2)
 (e1:c=true->p=q1:=by intro hc;(try simp only[au,aK,bB,aS,Nat.reduceAdd]at hc);first|((conv=>lhs;simp(maxSteps:=1000000) (disch:=omega)only[go_sem,nD,nB,oQ,oO,bZ,bh,bl,Nat.reduceAdd,Nat.reduceSub,Nat.reduceLeDiff,Nat.reduceEqDiff,Nat.reduceLT,Int.reduceToNat,reduceIte,reduceCtorEq,hc])<;>rfl)|rfl)
 (e2:c=false->p=q2:=by intro hc;(try simp only[au,aK,bB,aS,Nat.reduceAdd]at hc);first|((conv=>lhs;simp(maxSteps:=1000000) (disch:=omega)only[go_sem,nD,nB,oQ,oO,bZ,bh,bl,Nat.reduceAdd,Nat.reduceSub,Nat.reduceLeDiff,Nat.reduceEqDiff,Nat.reduceLT,Int.reduceToNat,reduceIte,reduceCtorEq,hc])<;>rfl)|rfl):p:=
 (DI h).elim (fun h=>(e1 h.1).symm▸k1 h.1 h.2) fun h=>(e2 h.1).symm▸k2 h.1 h.2
theorem Im{ρ:Nat->Option Nat}{id e n:Nat}{ds:List D}:AV.hG ρ (AV.nh id ds (.mL e id n))=AV.nh id ds (.mL e id n):=by
 simp only[AV.nh,aj];split<;>rfl
attribute [go_sem] Im
def Rt(p:Prop):Prop:=p
theorem rtA{c x:Prop}(h:c):Rt (c/\x)=Rt x:=propext ⟨fun k=>k.2,fun k=>⟨h,k⟩⟩
theorem Cy{p q:Prop}(hq:q)(e:p=q:=by first|((conv=>lhs;change Rt _;simp(maxSteps:=1000000) (disch:=omega)only[rtA,go_sem,nD,nB,oQ,oO,bZ,bh,bl,Nat.reduceAdd,Nat.reduceSub,Nat.reduceLeDiff,Nat.reduceEqDiff,Nat.reduceLT,Int.reduceToNat,reduceIte,reduceCtorEq];delta Rt)<;>rfl)|rfl):p:=e▸hq
theorem ndN{α:Type}{c p q:Prop}{a:Option α}{r:α}(h:Nds c a r)(k:c->a=some r->q)
 (e:c->p=q:=by intro hp;(try(have hq':=hp;simp only[au,aK,bB,aS,Nat.reduceAdd]at hq'));first|((conv=>lhs;change Rt _;simp(maxSteps:=1000000) (disch:=omega)only[rtA,go_sem,nD,nB,oQ,oO,bZ,bh,bl,Nat.reduceAdd,Nat.reduceSub,Nat.reduceLeDiff,Nat.reduceEqDiff,Nat.reduceLT,Int.reduceToNat,reduceIte,reduceCtorEq];delta Rt)<;>rfl)|rfl):p:=(e h.1).symm▸(k h.1 h.2)
theorem kz{α:Type}{c p q:Prop}{_:Decidable c}{a:Option α}{r:α}(h:(if c then a else none)=some r)(k:c->a=some r->q)
 (e:c->p=q:=by intro hp;(try(have hq':=hp;simp only[au,aK,bB,aS,Nat.reduceAdd]at hq'));first|((conv=>lhs;change Rt _;simp(maxSteps:=1000000) (disch:=omega)only[rtA,go_sem,nD,nB,oQ,oO,bZ,bh,bl,Nat.reduceAdd,Nat.reduceSub,Nat.reduceLeDiff,Nat.reduceEqDiff,Nat.reduceLT,Int.reduceToNat,reduceIte,reduceCtorEq];delta Rt)<;>rfl)|rfl):p:=(e (uV h).1).symm▸(k (uV h).1 (uV h).2)
section
variable{α β:Type}{P:Program}{k0 f:Nat}{args env:List AV}{s:gQ}{d:Option Nat}{R:List AV->gQ->Prop}{F:List (List Nat×List Nat)->List AV->gQ->Prop}{ms:List js}{acc:List (List Nat×List Nat)}{foot:List Nat}
 {x:Option α} {K:α->Option β} {r:β} {q:α->Prop}
theorem rC{dz:List D}{y:α->D}[i:iH x fun a=>lz P f dz (y a)](h:T7 x K r)(hk:∀a,x=some a->K a=some r->q a)
 (e:∀a,R (iU d env (.d (y a))) s=q a:=by intro a;first|((conv=>lhs;simp(maxSteps:=1000000) (disch:=omega)only[go_sem,nD,nB,oQ,oO,bZ,bh,bl,Nat.reduceAdd,Nat.reduceSub,Nat.reduceLeDiff,Nat.reduceEqDiff,Nat.reduceLT,Int.reduceToNat,reduceIte,reduceCtorEq])<;>rfl)|rfl) (ha:jr (args.map fun x=>x.hG (pV [])) (dz.map .d):=by exact lC):pT P k0 f args env s d R:=
 let⟨a,h1,h2⟩:=bind_some h;Oq (i.c h1) ha ((e a).symm▸hk a h1 h2)
theorem G4{dz:List D}{y:α->List D}[i:iH x fun a=>ki P f dz (y a)](h:T7 x K r)(hk:∀a,x=some a->K a=some r->q a)
 (e:∀a,R (iU d env (.oz ((y a).map .d))) s=q a:=by intro a;first|((conv=>lhs;simp(maxSteps:=1000000) (disch:=omega)only[go_sem,nD,nB,oQ,oO,bZ,bh,bl,Nat.reduceAdd,Nat.reduceSub,Nat.reduceLeDiff,Nat.reduceEqDiff,Nat.reduceLT,Int.reduceToNat,reduceIte,reduceCtorEq])<;>rfl)|rfl) (ha:jr (args.map fun x=>x.hG (pV [])) (dz.map .d):=by exact lC):pT P k0 f args env s d R:=
 let⟨a,h1,h2⟩:=bind_some h;L8 (i.c h1) ha ((e a).symm▸hk a h1 h2)
theorem dC{dz:List D}{y:α->D}[i:iH x fun a=>lz P f dz (y a)](h:T7 x K r)(hk:∀a,x=some a->K a=some r->q a)
 (e:∀a,yK P k0 F ms ((foot,[])::acc) (iU d env (.d (y a))) s=q a:=by intro a;first|((conv=>lhs;simp(maxSteps:=1000000) (disch:=omega)only[go_sem,nD,nB,oQ,oO,bZ,bh,bl,Nat.reduceAdd,Nat.reduceSub,Nat.reduceLeDiff,Nat.reduceEqDiff,Nat.reduceLT,Int.reduceToNat,reduceIte,reduceCtorEq])<;>rfl)|rfl) (ha:jr (args.map fun x=>x.hG (pV [])) (dz.map .d):=by exact lC):rE P k0 F ms acc foot d env s f args:=
 let⟨a,h1,h2⟩:=bind_some h;Oo (i.c h1) ha ((e a).symm▸hk a h1 h2)
theorem QY{dz:List D}{y:α->List D}[i:iH x fun a=>ki P f dz (y a)](h:T7 x K r)(hk:∀a,x=some a->K a=some r->q a)
 (e:∀a,yK P k0 F ms ((foot,[])::acc) (iU d env (.oz ((y a).map .d))) s=q a:=by intro a;first|((conv=>lhs;simp(maxSteps:=1000000) (disch:=omega)only[go_sem,nD,nB,oQ,oO,bZ,bh,bl,Nat.reduceAdd,Nat.reduceSub,Nat.reduceLeDiff,Nat.reduceEqDiff,Nat.reduceLT,Int.reduceToNat,reduceIte,reduceCtorEq])<;>rfl)|rfl) (ha:jr (args.map fun x=>x.hG (pV [])) (dz.map .d):=by exact lC):rE P k0 F ms acc foot d env s f args:=
 let⟨a,h1,h2⟩:=bind_some h;L7 (i.c h1) ha ((e a).symm▸hk a h1 h2)
theorem mA(pr nw:List fR){dz:List AV}{s1:gQ}{t:α->gQ}{y:α->AV}[i:iH x fun a=>hY P f dz s1 pr.length fun x s'=>x=y a/\s'=t a](h:T7 x K r)(hk:∀a,x=some a->K a=some r->q a)
 (e:∀a,R (iU d env ((y a).hG (oA (pr++nw)))) (tV s (t a) (pr++nw) (pr++nw))=q a:=by intro a;first|((conv=>lhs;simp(maxSteps:=1000000) (disch:=omega)only[go_sem,nD,nB,oQ,oO,bZ,bh,bl,Nat.reduceAdd,Nat.reduceSub,Nat.reduceLeDiff,Nat.reduceEqDiff,Nat.reduceLT,Int.reduceToNat,reduceIte,reduceCtorEq])<;>rfl)|rfl)
 (h1:pr.map (·.1)=List.range pr.length:=by rfl) (h2:((pr++nw).map (·.1)).Nodup:=by decide) (h3:((pr++nw).map (·.2)).Nodup:=by decide)
 (h4:∀p∈nw,sat s p.2=.dead/\k0<=p.2:=by simp[sat]) (ha:jr (args.map fun x=>x.hG (pV pr)) dz:=by exact lC) (hs:oN (oy s pr pr) s1:=by exact lC):pT P k0 f args env s d R:=
 let⟨a,g1,g2⟩:=bind_some h;RF pr nw (i.c g1) h1 h2 h3 h4 ha hs ((e a).symm▸hk a g1 g2)
theorem wu(pr nw:List fR){dz:List AV}{s1:gQ}{t:α->gQ}{y:α->AV}[i:iH x fun a=>hY P f dz s1 pr.length fun x s'=>x=y a/\s'=t a](h:T7 x K r)(hk:∀a,x=some a->K a=some r->q a)
 (e:∀a,yK P k0 F ms (((pr++nw).map (·.2)++foot,(If (t a) (pr++nw) (pr++nw)).map (·.1))::acc) (iU d env ((y a).hG (oA (pr++nw)))) (rL s (If (t a) (pr++nw) (pr++nw)))=q a:=by intro a;first|((conv=>lhs;simp(maxSteps:=1000000) (disch:=omega)only[go_sem,nD,nB,oQ,oO,bZ,bh,bl,Nat.reduceAdd,Nat.reduceSub,Nat.reduceLeDiff,Nat.reduceEqDiff,Nat.reduceLT,Int.reduceToNat,reduceIte,reduceCtorEq])<;>rfl)|rfl)
 (h1:pr.map (·.1)=List.range pr.length:=by rfl) (h2:((pr++nw).map (·.1)).Nodup:=by decide) (h3:((pr++nw).map (·.2)).Nodup:=by decide)
 (h4:∀p∈nw,sat s p.2=.dead/\k0<=p.2:=by simp[sat]) (ha:jr (args.map fun x=>x.hG (pV pr)) dz:=by exact lC) (hs:oN (oy s pr pr) s1:=by exact lC):rE P k0 F ms acc foot d env s f args:=
 let⟨a,g1,g2⟩:=bind_some h;RE pr nw (i.c g1) h1 h2 h3 h4 ha hs ((e a).symm▸hk a g1 g2)
end
theorem od{p:Prop}(h:p:=by repeat' first
 |refine jo (by kernel_rfl) (iL ?_)
 |refine uD gu (Cy ?_)
 |(with_reducible replace h:=toE h);subst h;first|(refine⟨_,rfl,iB.Z9 ?_ ?_⟩<;>(first|(simp only[go_sem,gN,aP,List.map_take,List.map_drop,aI,Nat.reduceAdd,Nat.reduceSub,Nat.reduceLeDiff,Nat.reduceEqDiff,Nat.reduceLT,reduceIte,reduceCtorEq];done)|((try simp only[go_sem,gN,aP,List.map_take,List.map_drop,aI,Nat.reduceAdd,Nat.reduceSub,Nat.reduceLeDiff,Nat.reduceEqDiff,Nat.reduceLT,reduceIte,reduceCtorEq];repeat' (first|exact AV.le_refl _|refine And.intro ?_ ?_|refine AV.zx ?_|refine AV.xp ?_|refine AV.Az ?_|refine AV.wT (DL.agg ?_)|exact Tl|exact IC|refine RL ?_ ?_|refine EI ?_ ?_|exact Uw|refine Uv ?_ ?_|exact tg (AV.wT DL.nil) _|exact D.le_refl _|exact yy|exact td|refine yx ?_|(simp only[go_sem,gN,aP,List.map_take,List.map_drop,aI,Nat.reduceAdd,Nat.reduceSub,Nat.reduceLeDiff,Nat.reduceEqDiff,Nat.reduceLT,reduceIte,reduceCtorEq];done)|refine ri.append (ri.refl _) ?_|refine AV.uU ?_|refine AV.DN ?_|omega));done)))|(first|(simp only[go_sem,gN,aP,List.map_take,List.map_drop,aI,Nat.reduceAdd,Nat.reduceSub,Nat.reduceLeDiff,Nat.reduceEqDiff,Nat.reduceLT,reduceIte,reduceCtorEq];done)|((try simp only[go_sem,gN,aP,List.map_take,List.map_drop,aI,Nat.reduceAdd,Nat.reduceSub,Nat.reduceLeDiff,Nat.reduceEqDiff,Nat.reduceLT,reduceIte,reduceCtorEq];repeat' (first|exact AV.le_refl _|refine And.intro ?_ ?_|refine AV.zx ?_|refine AV.xp ?_|refine AV.Az ?_|refine AV.wT (DL.agg ?_)|exact Tl|exact IC|refine RL ?_ ?_|refine EI ?_ ?_|exact Uw|refine Uv ?_ ?_|exact tg (AV.wT DL.nil) _|exact D.le_refl _|exact yy|exact td|refine yx ?_|(simp only[go_sem,gN,aP,List.map_take,List.map_drop,aI,Nat.reduceAdd,Nat.reduceSub,Nat.reduceLeDiff,Nat.reduceEqDiff,Nat.reduceLT,reduceIte,reduceCtorEq];done)|refine ri.append (ri.refl _) ?_|refine AV.uU ?_|refine AV.DN ?_|omega));done))|(refine⟨[],by simp,?_,?_⟩<;>(first|(simp only[go_sem,gN,aP,List.map_take,List.map_drop,aI,Nat.reduceAdd,Nat.reduceSub,Nat.reduceLeDiff,Nat.reduceEqDiff,Nat.reduceLT,reduceIte,reduceCtorEq];done)|((try simp only[go_sem,gN,aP,List.map_take,List.map_drop,aI,Nat.reduceAdd,Nat.reduceSub,Nat.reduceLeDiff,Nat.reduceEqDiff,Nat.reduceLT,reduceIte,reduceCtorEq];repeat' (first|exact AV.le_refl _|refine And.intro ?_ ?_|refine AV.zx ?_|refine AV.xp ?_|refine AV.Az ?_|refine AV.wT (DL.agg ?_)|exact Tl|exact IC|refine RL ?_ ?_|refine EI ?_ ?_|exact Uw|refine Uv ?_ ?_|exact tg (AV.wT DL.nil) _|exact D.le_refl _|exact yy|exact td|refine yx ?_|(simp only[go_sem,gN,aP,List.map_take,List.map_drop,aI,Nat.reduceAdd,Nat.reduceSub,Nat.reduceLeDiff,Nat.reduceEqDiff,Nat.reduceLT,reduceIte,reduceCtorEq];done)|refine ri.append (ri.refl _) ?_|refine AV.uU ?_|refine AV.DN ?_|omega));done)))
 |(with_reducible exact(toF h).elim)
 |(with_reducible replace h:=toI h);refine it h (fun hc h=>?_) (fun hc h=>?_)
 |(with_reducible replace h:=toN h);refine ndN h (fun hp h=>?_)
 |(with_reducible replace h:=toB h);first|refine rC h (fun r hr h=>?_)|refine G4 h (fun r hr h=>?_)|refine dC h (fun r hr h=>?_)|refine QY h (fun r hr h=>?_)
 |(with_reducible replace h:=g_ h hb3)
 |(with_reducible replace h:=g_ h hb2)
 |(with_reducible replace h:=g_ h hb1)
 |(exfalso;simp only[aQ,cr]at *;omega)):p:=h
theorem iT{α:Type}{c:Bool}{a b:Option α}{r:α}{p q1:Prop}(h:(if c=true then a else b)=some r)(k1:c=true->a=some r->q1)
 (e1:c=true->p=q1:=by intro hc;(try simp only[au,aK,bB,aS,Nat.reduceAdd]at hc);first|((conv=>lhs;simp(maxSteps:=1000000) (disch:=omega)only[go_sem,nD,nB,oQ,oO,bZ,bh,bl,Nat.reduceAdd,Nat.reduceSub,Nat.reduceLeDiff,Nat.reduceEqDiff,Nat.reduceLT,Int.reduceToNat,reduceIte,reduceCtorEq,hc])<;>rfl)|rfl)
 (k2:c=false->b=some r->p:=by intro hc h;(try simp only[au,aK,bB,aS,Nat.reduceAdd]at hc);refine Yo hc ?_;exact od):p:=
 (DI h).elim (fun h=>(e1 h.1).symm▸k1 h.1 h.2) fun h=>k2 h.1 h.2
theorem iF{α:Type}{c:Bool}{a b:Option α}{r:α}{p q2:Prop}(h:(if c=true then a else b)=some r)(k2:c=false->b=some r->q2)
 (e2:c=false->p=q2:=by intro hc;(try simp only[au,aK,bB,aS,Nat.reduceAdd]at hc);first|((conv=>lhs;simp(maxSteps:=1000000) (disch:=omega)only[go_sem,nD,nB,oQ,oO,bZ,bh,bl,Nat.reduceAdd,Nat.reduceSub,Nat.reduceLeDiff,Nat.reduceEqDiff,Nat.reduceLT,Int.reduceToNat,reduceIte,reduceCtorEq,hc])<;>rfl)|rfl)
 (k1:c=true->a=some r->p:=by intro hc h;(try simp only[au,aK,bB,aS,Nat.reduceAdd]at hc);refine Yo hc ?_;exact od):p:=
 (DI h).elim (fun h=>k1 h.1 h.2) fun h=>(e2 h.1).symm▸k2 h.1 h.2
theorem jV{P:Program}{k:Nat}{Q:Post}{env:List AV}{s:gQ}{x:gR}{σ β:Type}{f:σ->Option (σ⊕β)}{s0:σ}{b:β}(hb:gI f s0=some b)
 (ws:List Nat) (vs:σ->List (Nat×AV)) (S:σ->gQ)
 (round:∀p t,f p=some t->(∀b',t=.inr b'->b'=b)->sV P k x (CF (fun env' s'=>∃p',t=.inl p'/\iB k env' s' (vR (sW env ws) (vs p')) (S p')) Q)
  (vR (sW env ws) (vs p)) (S p)) (hw:iB k env s (vR (sW env ws) (vs s0)) (S s0):=by(try dsimp only);exact wk):sV P k (.loop x) Q env s:=rZ hb ws vs S hw round
theorem wQ{s:gQ}{id id' i:Nat}{ob:Ob}:sat (sset (gS id' s) id ob) i=if i=id then ob else if i=id' then .dead else(sat s i).kill id':=by rw[iE,sd]
theorem St.I5{C:Ctx}{β:gZ}{env:List AV}{s:gQ}{a:Act}{w:World}(h:St C β env s a w){id id':Nat}(hne:id≠id')(hk:C.k<=id'){t e n e':Nat}{xs':List D}{pre post:List AV}
 (hs:sat s id=.jj t e n (pre++ .own e' id' xs'::post))
 (hnv:∀v,AV.ok β (C.gO β s) w (.own e' id' xs') v->∃B:List Nat,B.Nodup/\(∀b∈B,gy β s id' b/\∃vs t',w.heap[b]?=some (.cells vs t' (0,0)))/\NV w (.sl e' none xs') v B):
 ∃β',St C β' (AV.gY (gC id') env) (sset (gS id' s) id (.jj t e n (AV.gY (gC id') pre++ .dp (.sl e' none xs')::AV.gY (gC id') post))) a w:=by
 have ho:=h.inv.obs id;rw[hs]at ho;obtain⟨u,bs,hb,h0,hl,htok⟩:=ho;rcases htok with⟨_,h1,_⟩|⟨b,cap,vs,rfl,k5,k6,k7,k8,k9,k10,k11⟩
 ·rw[h1]at hl;simp at hl
 obtain⟨hpl,b1,b2,hbs,hn1,hn2⟩:=uQ k11;simp only[oT]at hn2;obtain⟨v,r,c1,c2,hvr,hb2,hx,hn3⟩:=hn2;obtain⟨hxo,hc1⟩:AV.ok β (C.gO β s) w (.own e' id' xs') v/\c1=[]:=hx;subst hc1;rw[bl]at hb2;subst hb2;subst hbs;obtain⟨B,hB1,hB2,hB3⟩:=hnv v hxo;have hm:gy β s id b:=by unfold gy;rw[hs];exact⟨_,_,hb,.inl ⟨cap,rfl⟩⟩
 have hmb:∀q∈b1++b2,gy β s id q:=fun q hq=>by unfold gy;rw[hs];exact⟨_,_,hb,.inr hq⟩
 have hdis:∀q∈B,¬gy β s id q:=fun q hq h2=>hne (h.inv.inj id id' q h2 (hB2 q hq).1)
 let β':gZ:=gG (gG β id' .no) id (.jj (.slice (some ⟨b,0,none⟩) n cap) n (b1++(B++b2)));let s':gQ:=sset (gS id' s) id (.jj t e n (AV.gY (gC id') pre++ .dp (.sl e' none xs')::AV.gY (gC id') post));have hβid:β' id=.jj (.slice (some ⟨b,0,none⟩) n cap) n (b1++(B++b2)):=by simp[β',gG]
 have hβo:∀i,i≠id->i≠id'->β' i=β i:=fun i h1 h2=>by simp[β',gG,h1,h2]
 have hblk:∀i q,gy β' s' i q->gy β s i q\/i=id/\q∈B:=by
  intro i q hq;unfold gy at hq;rw[wQ]at hq;by_cases hi:i=id
  ·subst hi;rw[aE rfl]at hq;simp only at hq;obtain⟨v',q',h1,h2⟩:=hq;rw[hβid]at h1;cases h1;rcases h2 with⟨cap',h2⟩|h2
   ·simp at h2;rw[<-h2.1];exact .inl hm
   ·rcases aG.1 h2 with h2|h2
    ·exact .inl (hmb q (by simp[h2]))
    ·rcases aG.1 h2 with h2|h2
     ·exact .inr ⟨rfl,h2⟩
     ·exact .inl (hmb q (by simp[h2]))
  ·rw[aJ hi]at hq;by_cases hi':i=id'
   ·rw[aE hi']at hq;exact hq.elim
   ·rw[aJ hi']at hq;refine .inl ?_;unfold gy;cases hsi:sat s i<;>rw[hsi]at hq<;>simpa[Ob.kill,hβo i hi hi']using hq
 have hown:∀q o,own β' s' q o->own (gG β id' .no) (gS id' s) q o:=by
  rintro q o ⟨i,ho⟩;refine⟨i,?_⟩;rw[wQ]at ho;rw[sd];by_cases hi:i=id
  ·subst hi;rw[aE rfl]at ho;simp only at ho;obtain⟨cap',q',h1,h2⟩:=ho;rw[hβid]at h1;rw[aJ hne,hs];simp only[Ob.kill];simp only[Place.jj.injEq,bw,cx,aM,dn,eX]at h1;obtain⟨⟨rfl,rfl⟩,_⟩:=h1;exact⟨cap,b1++b2,by simpa[gG,hne]using hb,h2⟩
  ·rw[aJ hi]at ho;by_cases hi':i=id'
   ·rw[aE hi']at ho;exact ho.elim
   ·rw[aJ hi']at ho⊢;cases hsi:sat s i<;>rw[hsi]at ho<;>simpa[Ob.kill,gG,hβo i hi hi',hi']using ho
 have hval:∀x v,AV.ok β (C.gO β s) w x v->AV.ok β' (C.gO β' s') w (x.hG (gC id')) v:=fun x v hx=>
  AV.ke (fun q o v hc hn=>⟨hc,fun hf=>hn (hf.imp (fun x=>x) (hown q o))⟩) (fun i=>by
   by_cases hi:i=id
   ·subst hi;rw[hβid];simp only[gG,aJ hne];rw[hb];exact⟨_,_,_,rfl,aO _,fun _=>rfl⟩
   ·simp only[β'];simp only[gG,aJ hi];exact .refl _) _ _ (xo (id:=id') hx)
 have hnone:β' id'=.no:=by simp[β',gG];exact fun h=>hne h.symm
 refine⟨β',h.defers,⟨h.inv.size,h.inv.io,h.inv.keep,h.inv.vr,fun q o ho=>h.inv.sK q o (uH (hown q o ho)),fun i q hq=>?_,fun i hi=>?_,h.inv.low,fun i=>?_,fun i j q hi hj=>?_⟩,by rw[rK];exact h.len,fun i x hx=>?_⟩
 ·rcases hblk i q hq with h1|⟨_,h1⟩
  ·exact h.inv.uW i q h1
  ·exact h.inv.uW id' q (hB2 q h1).1
 ·have h1:=h.inv.pl i hi;by_cases hii:i=id
  ·subst hii;rw[hβid];rw[hb]at h1;exact h1.trans ⟨_,_,_,rfl,aO _,fun _=>rfl⟩
  ·rw[hβo i hii gu];exact h1
 ·show vO β' (C.gO β' s') w i (sat s' i);rw[wQ];by_cases hi:i=id
  ·subst hi;rw[aE rfl];refine⟨_,_,hβid,fun q hq=>?_,?_,.inr ⟨b,cap,vs,rfl,k5,k6,k7,k8,k9,?_,?_⟩⟩
   ·rcases aG.1 hq with hq|hq
    ·exact h0 q (by simp[hq])
    ·rcases aG.1 hq with hq|hq
     ·exact(hB2 q hq).2
     ·exact h0 q (by simp[hq])
   ·rw[<-hl];simp[rK]
   ·have k10':=k10;rw[bJ,cg]at k10';obtain⟨p1,p2,p3,p4⟩:=k10';rw[bJ,cg,cg];refine⟨fun hq=>?_,p2,⟨hB1,p3,fun x hx y hy he=>hdis x hx (he▸hmb y (by simp[hy]))⟩,fun x hx y hy he=>?_⟩
    ·rcases aG.1 hq with hq|hq
     ·exact p1 (by simp[hq])
     ·rcases aG.1 hq with hq|hq
      ·exact hdis b hq hm
      ·exact p1 (by simp[hq])
    ·rcases aG.1 hy with hy|hy
     ·exact hdis y hy (he▸hmb x (by simp[hx]))
     ·exact p4 x hx y hy he
   ·have e1:=oT.imp (f:=AV.hG (gC id')) (β':=β') (O':=C.gO β' s') (w':=w) (fun x v=>pL (hval x v)) (fun _ _=>rfl) hn1;have e2:=oT.imp (f:=AV.hG (gC id')) (β':=β') (O':=C.gO β' s') (w':=w) (fun x v=>pL (hval x v)) (fun _ _=>rfl) hn3;rw[<-lW]at e1 e2;have e3:oT β' (C.gO β' s') w (.dp (.sl e' none xs')::AV.gY (gC id') post) (vs.toList.drop pre.length) (B++b2):=by
     rw[hvr];simp only[oT];exact⟨v,r,B,b2,rfl,rfl,hB3,e2⟩
    have e4:=nZ (us:=vs.toList.take pre.length) (by rw[aU,rK];omega) (rD (vs:=vs.toList.take pre.length) e1 (by rw[rK,dx,dN])) e3;rwa [bQ]at e4
  ·rw[aJ hi];by_cases hi':i=id'
   ·rw[aE hi',hi'];exact hnone
   ·rw[aJ hi'];have ho:=h.inv.obs i;cases hsi:sat s i with
    |dead=>rw[hsi]at ho;exact(hβo i hi hi').trans ho
    |obj t' cs=>
     rw[hsi]at ho;obtain⟨q,us,h1,h2,h3,h4⟩:=ho;refine⟨q,us,(hβo i hi hi').trans h1,h2,h3,h4.imp fun us' hu=>?_⟩;rw[lW];exact Bo hval hu
    |tok t' e2 n'=>rw[hsi]at ho;obtain⟨u',h1,h2⟩:=ho;exact⟨u',(hβo i hi hi').trans h1,h2⟩
    |lO t' e2 n' cs=>
     rw[hsi]at ho;obtain⟨u',h1,h3,h2⟩:=ho;refine⟨u',(hβo i hi hi').trans h1,h3,?_⟩;rcases h2 with h2|⟨q,cap',us,g2,g3,g4,g5,g6,g7,pre',rest,g8,g9⟩
     ·exact .inl h2
     ·exact .inr ⟨q,cap',us,g2,g3,g4,g5,g6,g7,pre',rest,g8,D.kj (fun q o v hc hn=>⟨hc,fun hf=>hn (hf.imp (fun x=>x) fun ho=>uH (hown q o ho))⟩) _ _ g9⟩
    |jj t' e2 n' cs=>
     rw[hsi]at ho;obtain⟨u',bs',h1,h3,h2⟩:=ho;refine⟨u',bs',(hβo i hi hi').trans h1,h3,?_⟩;rw[lW];exact h2.imp (fun x v=>pL (hval x v)) (fun _ _=>rfl) (fun _ _ _=>rfl)
    |oU e2 n' cs=>
     rw[hsi]at ho;obtain⟨u',bs',h1,h3,h2⟩:=ho;refine⟨u',bs',(hβo i hi hi').trans h1,h3,?_⟩;rw[lW];exact h2.imp (fun x v=>pL (hval x v)) (fun _ _=>rfl) (fun _ _ _ _=>rfl)
    |mp P k es=>rw[hsi]at ho;obtain⟨q,h1,h2⟩:=ho;exact⟨q,(hβo i hi hi').trans h1,h2.imp rfl fun x v hx=>D.ke (fun q o v hc hn=>⟨hc,fun hf=>hn (hf.imp (fun x=>x) fun ho=>uH (hown q o ho))⟩) _ _ hx⟩
 ·rcases hblk i q hi with h1|⟨h1,h1'⟩<;>rcases hblk j q hj with h2|⟨h2,h2'⟩
  ·exact h.inv.inj i j q h1 h2
  ·subst h2;have:=h.inv.inj i id' q h1 (hB2 q h2').1;subst this;unfold gy at hi;rw[wQ,aJ (fun h=>hne h.symm),aE rfl]at hi;exact hi.elim
  ·subst h1;have:=h.inv.inj j id' q h2 (hB2 q h1').1;subst this;unfold gy at hj;rw[wQ,aJ (fun h=>hne h.symm),aE rfl]at hj;exact hj.elim
  ·rw[h1,h2]
 ·rw[vc]at hx;cases hy:env[i]? with
  |none=>rw[hy]at hx;cases hx
  |some y=>rw[hy]at hx;cases hx;exact hval _ _ (h.env i y hy)
def JT:D->Bool
 |.lit _=>true
 |_=>false
def vw:D->Bool
 |.lit _=>true
 |.sl _ _ _=>true
 |_=>false
def yV:D->AV
 |.sl e nl xs=>.dp (.sl e nl xs)
 |x=>.d x
theorem I1{β:gZ}{O:Own}{w:World}{x:D}{v:Value}{bs:List Nat}(hx:vw x=true)(h:NX β O w (yV x) v bs):NV w x v bs:=by
 cases x with
 |any=>cases hx
 |agg cs=>cases hx
 |lit u=>
  obtain⟨h1,h2⟩:=h;have h1:D.ok O w (.lit u) v:=by
   have h1:AV.ok β O w (.d (.lit u)) v:=h1;simpa only[AV.ok]using h1
  have h1:v=u/\one u=true:=by simpa only[D.ok]using h1
  exact⟨h1.1,h1.2,h2⟩
 |sl e nl xs=>exact h
theorem C9{β:gZ}{O:Own}{w:World}:∀{cs:List D}{vs r:List Value}{bs:List Nat},(∀x∈cs,vw x=true)->vs.length=cs.length->oT β O w (cs.map yV) (vs++r) bs->NC w cs vs bs
 |[],vs,r,bs,_,hl,h=>by
  simp only[dz,oT]at h;simp only[NC];exact⟨bp.1 hl,h⟩
 |c::cs,[],r,bs,_,hl,_=>by simp at hl
 |c::cs,u::us,r,bs,hc,hl,h=>by
  simp only[aT,bH,oT]at h;obtain⟨v,q,b1,b2,h1,rfl,h3,h4⟩:=h;cases h1;simp only[NC];exact⟨u,us,b1,b2,rfl,rfl,I1 (hc c (by simp)) h3,C9 (fun x hx=>hc x (by simp[hx])) (by simpa using hl) h4⟩
theorem C_{β:gZ}{O:Own}{w:World}{e:Nat}:∀{xs:List D}{vs:List Value}{bs:List Nat},(∀x∈xs,(gD x).length=e)->(∀x∈xs,∀c∈gD x,vw c=true)->
 oT β O w ((xs.flatMap gD).map yV) vs bs->NR w e xs vs bs
 |[],vs,bs,_,_,h=>by simpa[oT,NR]using h
 |x::xs,vs,bs,he,hc,h=>by
  rw[cn,aP]at h;obtain⟨h1,b1,b2,rfl,h2,h3⟩:=uQ h;rw[aS]at h1 h3;have hlen:=he x (by simp);have hsp:vs=vs.take e++vs.drop e:=(bQ e vs).symm;have hle:e<=vs.length:=by omega
  have ih:=C_ (xs:=xs) (fun y hy=>he y (by simp[hy])) (fun y hy=>hc y (by simp[hy])) h3;rw[hlen]at ih;have hnc:NC w (gD x) (vs.take e) b1:=C9 (r:=vs.drop e) (hc x (by simp)) (by rw[aU,hlen];omega) (by rw[bQ];exact h2);cases x with
  |agg cs=>
   simp only[NR];exact⟨vs.take e,vs.drop e,b1,b2,hsp,by rw[aU];omega,rfl,hnc,ih⟩
  |any=>exact absurd (hc .any (by simp) .any (by simp[gD])) (by simp[vw])
  |lit u=>
   simp only[gD,aK,bB]at hlen;subst hlen;simp only[gD,NC]at hnc;obtain⟨v,r,c1,c2,g1,rfl,g3,g4,rfl⟩:=hnc;simp only[NR];exact⟨v,vs.drop 1,c1,b2,by
    conv=>lhs;rw[hsp]
    rw[g1,g4];rfl,by trivial,by simp,g3,ih⟩
  |sl e' nl ys=>
   simp only[gD,aK,bB]at hlen;subst hlen;simp only[gD,NC]at hnc;obtain⟨v,r,c1,c2,g1,rfl,g3,g4,rfl⟩:=hnc;simp only[NR];exact⟨v,vs.drop 1,c1,b2,by
    conv=>lhs;rw[hsp]
    rw[g1,g4];rfl,by trivial,by simp,g3,ih⟩
theorem Sl{C:Ctx}{β:gZ}{s:gQ}{w:World}(h:Inv C β s w){id' t e:Nat}{xs:List D}(hs:sat s id'=.jj t e xs.length ((xs.flatMap gD).map yV))
 (he:∀x∈xs,(gD x).length=e) (hc:∀x∈xs,∀c∈gD x,vw c=true) (v:Value) (hv:AV.ok β (C.gO β s) w (.own e id' xs) v):
 ∃B:List Nat,B.Nodup/\(∀b∈B,gy β s id' b/\∃vs t',w.heap[b]?=some (.cells vs t' (0,0)))/\NV w (.sl e none xs) v B:=by
 have ho:=h.obs id';rw[hs]at ho;obtain⟨u,bs,hb,h0,hl,htok⟩:=ho;simp only[AV.ok,D.ok]at hv;obtain⟨⟨a,cap,hva,hcap,hnl,_⟩,p,q,h1,_,h3⟩:=hv;rw[hb]at h1;obtain⟨rfl,rfl⟩:=h1;have hvu:v=u:=h3 rfl;subst hvu;rcases htok with⟨rfl,k2,rfl⟩|⟨b,cap',vs,rfl,k5,k6,k7,k8,k9,k10,k11⟩
 ·have hx:xs=[]:=bp.1 k2;subst hx;refine⟨[],by simp,by simp,?_⟩;simp only[NV];exact⟨none,0,rfl,⟨aO _,gu⟩,trivial,.inl (by simp)⟩
 ·refine⟨b::bs,k10,fun q hq=>?_,?_⟩
  ·rcases bt.1 hq with rfl|hq
   ·exact⟨by unfold gy;rw[hs];exact⟨_,bs,hb,.inl ⟨cap',rfl⟩⟩,vs,t,k5⟩
   ·exact⟨by unfold gy;rw[hs];exact⟨_,bs,hb,.inr hq⟩,h0 q hq⟩
  ·simp only[NV];exact⟨_,cap',rfl,⟨k7,k8⟩,trivial,.inr ⟨b,vs,t,bs,rfl,rfl,k5,k6,k9,C_ he hc k11⟩⟩
theorem Iq{O:Own}{w:World}{b:Nat}{vs:Array Value}{t:Nat}(hh:w.heap[b]?=some (.cells vs t (0,0))):∀{xs:List D}{o:Nat},(∀x∈xs,JT x=true)->D.row O w b o 1 xs->NR w 1 xs (vs.toList.drop o) []
 |[],_,_,_=>by simp[NR]
 |x::xs,o,hl,h=>by
  cases x with
  |lit u=>
   simp only[D.row]at h;obtain⟨⟨v,_,h1,h2⟩,h3⟩:=h;simp only[D.ok]at h2;obtain⟨rfl,hone⟩:=h2;have h4:=(h1 0 v rfl).1;simp only[World.cell?,hh,bR,ah,ay,cP]at h4;have hlt:o<vs.toList.length:=by simpa using(bC.1 h4).1
   simp only[NR];refine⟨v,vs.toList.drop (o+1),[],[],?_,by trivial,rfl,?_,Iq hh (fun y hy=>hl y (by simp[hy])) h3⟩
   ·rw[aV hlt];congr 1;have:=(bC.1 h4).2;simpa using this
   ·simp only[NV];exact⟨by trivial,hone,by trivial⟩
  |any=>exact absurd (hl .any (by simp)) (by simp[JT])
  |agg cs=>exact absurd (hl (.agg cs) (by simp)) (by simp[JT])
  |sl e nl ys=>exact absurd (hl (.sl e nl ys) (by simp)) (by simp[JT])
theorem Sm{C:Ctx}{β:gZ}{s:gQ}{w:World}(h:Inv C β s w){id' t:Nat}{xs:List D}(hs:sat s id'=.tok t 1 xs.length)
 (hc:∀x∈xs,JT x=true) (v:Value) (hv:AV.ok β (C.gO β s) w (.own 1 id' xs) v):
 ∃B:List Nat,B.Nodup/\(∀b∈B,gy β s id' b/\∃vs t',w.heap[b]?=some (.cells vs t' (0,0)))/\NV w (.sl 1 none xs) v B:=by
 have ho:=h.obs id';rw[hs]at ho;obtain⟨u,hb,htok⟩:=ho;simp only[AV.ok,D.ok]at hv;obtain⟨⟨a,cap,hva,hcap,hnl,hrow⟩,p,q,h1,_,h3⟩:=hv;rw[hb]at h1;obtain⟨rfl,rfl⟩:=h1;have hvu:v=u:=h3 rfl;subst hvu;rcases htok with⟨rfl,k2⟩|⟨b,cap',vs,rfl,k5,k6,k7,k8,k9⟩
 ·have hx:xs=[]:=bp.1 k2;subst hx;refine⟨[],by simp,by simp,?_⟩;simp only[NV];exact⟨none,0,rfl,⟨aO _,gu⟩,trivial,.inl (by simp)⟩
 ·simp only[bw,cx]at hva;obtain⟨rfl,rfl⟩:=hva;refine⟨[b],by simp,fun q hq=>?_,?_⟩
  ·simp only[bS]at hq;subst hq;exact⟨by unfold gy;rw[hs];exact⟨cap',hb⟩,vs,t,k5⟩
  ·simp only[NV];refine⟨_,cap',rfl,⟨k7,k8⟩,trivial,.inr ⟨b,vs,t,[],rfl,rfl,k5,k6,k9,?_⟩⟩;rcases hrow with rfl|⟨b',o',q2,q3⟩
   ·simp[NR]
   ·cases q2;simpa using Iq k5 hc q3
def jJ(ds:List D):List AV:=(ds.flatMap gD).map yV
theorem lA{xs ys:List D}:jJ (xs++ys)=jJ xs++jJ ys:=by simp[jJ]
theorem Ef{x:D}{xs:List D}:jJ (x::xs)=(gD x).map yV++jJ xs:=by simp[jJ]
theorem gw{ρ:Nat->Option Nat}:∀{ds:List D},AV.gY ρ (jJ ds)=jJ ds:=fun{ds}=>by
 rw[lW];unfold jJ;rw[eB];refine c_ fun x _=>?_
 cases x<;>rfl
def Whole(s:gQ)(id' e':Nat)(xs:List D):Prop:=
 (∃t,e'=1/\sat s id'=.tok t 1 xs.length/\∀x∈xs,JT x=true)\/
 (∃t,sat s id'=.jj t e' xs.length (jJ xs)/\(∀x∈xs,(gD x).length=e')/\∀x∈xs,∀c∈gD x,vw c=true)
theorem Whole.nv{C:Ctx}{β:gZ}{s:gQ}{w:World}(h:Inv C β s w){id' e':Nat}{xs:List D}(hw:Whole s id' e' xs)(v:Value)(hv:AV.ok β (C.gO β s) w (.own e' id' xs) v):
 ∃B:List Nat,B.Nodup/\(∀b∈B,gy β s id' b/\∃vs t',w.heap[b]?=some (.cells vs t' (0,0)))/\NV w (.sl e' none xs) v B:=by
 rcases hw with⟨t,rfl,h1,h2⟩|⟨t,h1,h2,h3⟩
 ·exact Sm h h1 h2 v hv
 ·exact Sl h h1 h2 h3 v hv
theorem iB.I5{k:Nat}{env:List AV}{s:gQ}(id id':Nat)(pre post:List AV){t e n e':Nat}{cs:List AV}{xs':List D}(hs:sat s id=.jj t e n cs)(hcs:cs=pre++ .own e' id' xs'::post)
 (hk:k<=id') (hne:id≠id') (hw:Whole s id' e' xs'):
 iB k env s (AV.gY (gC id') env) (sset (gS id' s) id (.jj t e n (AV.gY (gC id') pre++ .dp (.sl e' none xs')::AV.gY (gC id') post))):=fun C β a w hC hst=>by
 subst hC;exact hst.I5 hne hk (by rw[hs,hcs]) (fun v hv=>hw.nv hst.inv v hv)
theorem St.Qg{C:Ctx}{β:gZ}{env:List AV}{s:gQ}{a:Act}{w:World}(h:St C β env s a w){id:Nat}(t e:Nat)(hd:sat s id=.dead):
 ∃β',St C β' env (sset s id (.jj t e 0 [])) a w/\(∀x v,AV.ok β (C.gO β s) w x v->AV.ok β' (C.gO β' (sset s id (.jj t e 0 []))) w x v)/\
  AV.ok β' (C.gO β' (sset s id (.jj t e 0 []))) w (.own e id []) (.slice none 0 0):=by
 have hno:β id=.no:=by have:=h.inv.obs id;rw[hd]at this;exact this
 have hown:∀b o,own (gG β id (.jj (.slice none 0 0) 0 [])) (sset s id (.jj t e 0 [])) b o->own β s b o:=by
  intro b o ho;rcases sX ho with ho|ho
  ·exact ho
  ·obtain⟨i,ho⟩:=ho;by_cases hi:i=id
   ·subst hi;simp[sat,gG]at ho
   ·simp[sat,hi]at ho
 have hblk:∀i b,gy (gG β id (.jj (.slice none 0 0) 0 [])) (sset s id (.jj t e 0 [])) i b->gy β s i b:=by
  intro i b hb;rcases jk hb with⟨_,hb⟩|⟨_,hb⟩
  ·exact hb
  ·simp only[gy,sat,aj,gG]at hb;obtain⟨v',bs',h1,h2⟩:=hb;simp only[Place.jj.injEq,cx]at h1;obtain⟨rfl,rfl⟩:=h1;rcases h2 with⟨_,h2⟩|h2<;>simp at h2
 have m:mu β s w (gG β id (.jj (.slice none 0 0) 0 [])) (sset s id (.jj t e 0 [])) w:=
  ⟨aO _,rfl,fun _ _ _ hc _=>hc,fun _ _ _=>rfl,fun b o ho=>.inl (hown b o ho),fun i b hb=>.inl ⟨i,hblk i b hb⟩,fun i=>by
   by_cases hi:i=id
   ·subst hi;rw[hno];trivial
   ·simp only[gG,hi,ay];exact .refl _⟩
 refine⟨_,h.move m (fun i=>?_) (fun i j b hi hj=>h.inv.inj i j b (hblk i b hi) (hblk j b hj)),fun x v hx=>m.ok hx,?_⟩
 ·rw[iE];by_cases hi:i=id
  ·subst hi;simp only[aj];exact⟨.slice none 0 0,[],by simp[gG],by simp,by simp,.inl ⟨rfl,rfl,rfl⟩⟩
  ·simp only[hi,ay];exact(h.inv.obs i).sJ m (by simp[gG,hi]) (fun _ _=>rfl) rfl
 ·simp only[AV.ok,D.ok];exact⟨⟨none,0,rfl,⟨aO _,gu⟩,trivial,.inl trivial⟩,_,0,by simp[gG,Place.at],aO _,fun _=>rfl⟩
theorem iB.FN{k:Nat}{env:List AV}{s:gQ}(o j id t e:Nat){e0 t':Nat}{cs:List AV}(hd:sat s id=.dead)(ho:sat s o=.obj t' cs)(hj:cs[j]?=some (.d (.sl e0 (some true) []))):
 iB k env s env (sset (sset s id (.jj t e 0 [])) o (.obj t' (cs.set j (.own e id [])))):=fun C β a w hC hst=>by
 have hoi:o≠id:=fun h=>by rw[h,hd]at ho;cases ho
 obtain⟨β',h1,h2,h3⟩:=hst.Qg t e hd;have h4:=h1.Kk (o:=o) (t:=t') (cs:=cs) (cs':=cs.set j (.own e id [])) (by rw[iE,aJ hoi,ho]) fun vs hv=>by
  rw[AV.kM]at hv⊢;refine⟨by rw[hv.1,cZ],fun q x v hx hvq=>?_⟩;rw[dX]at hx;split at hx
  ·rename_i hq;subst hq;split at hx
   ·cases hx;have h5:=hv.2 j _ v hj hvq;simp only[AV.ok]at h5;rw[B7 h5];exact h3
   ·cases hx
  ·exact hv.2 q x v hx hvq
 exact⟨β',h4⟩
theorem gA{ρ:Nat->Option Nat}:∀{xs ys:List AV},AV.gY ρ (xs++ys)=AV.gY ρ xs++AV.gY ρ ys:=fun{xs ys}=>by simp only[lW,aP]
theorem wz{ρ:Nat->Option Nat}{xs:List AV}{j:Nat}{x:AV}:AV.gY ρ (xs.set j x)=(AV.gY ρ xs).set j (x.hG ρ):=by simp only[lW,eT]
theorem F1{β:gZ}{O:Own}{w:World}{x:D}{v:Value}{bs:List Nat}(hx:vw x=true)(h:NV w x v bs):NX β O w (yV x) v bs:=by
 cases x with
 |any=>cases hx
 |agg cs=>cases hx
 |lit u=>
  simp only[NV]at h;exact⟨by show AV.ok β O w (.d (.lit u)) v;simp only[AV.ok,D.ok];exact⟨h.1,h.2.1⟩,h.2.2⟩
 |sl e nl xs=>exact h
theorem EM{β:gZ}{O:Own}{w:World}:∀{cs:List D}{vs r:List Value}{bs:List Nat},(∀x∈cs,vw x=true)->NC w cs vs bs->oT β O w (cs.map yV) (vs++r) bs
 |[],vs,r,bs,_,h=>by
  simp only[NC]at h;simp only[dz,oT];exact h.2
 |c::cs,vs,r,bs,hc,h=>by
  simp only[NC]at h;obtain⟨v,q,b1,b2,rfl,rfl,h3,h4⟩:=h;simp only[aT,bH,oT];exact⟨v,q++r,b1,b2,rfl,rfl,F1 (hc c (by simp)) h3,EM (fun x hx=>hc x (by simp[hx])) h4⟩
theorem AI{β:gZ}{O:Own}{w:World}{e:Nat}:∀{xs:List D}{vs:List Value}{bs:List Nat},(∀x∈xs,(gD x).length=e)->(∀x∈xs,∀c∈gD x,vw c=true)->
 NR w e xs vs bs->oT β O w (jJ xs) vs bs
 |[],vs,bs,_,_,h=>by simpa[oT,NR,jJ]using h
 |x::xs,vs,bs,he,hc,h=>by
  have ih:=fun r b2=>AI (β:=β) (O:=O) (w:=w) (e:=e) (xs:=xs) (vs:=r) (bs:=b2) (fun y hy=>he y (by simp[hy])) (fun y hy=>hc y (by simp[hy]))
  have hx:=hc x (by simp);have hle:=he x (by simp);rw[Ef];cases x with
  |agg cs=>
   simp only[NR]at h;obtain⟨us,r,b1,b2,rfl,hl,rfl,h3,h4⟩:=h;refine nZ (by simpa using hl.trans hle.symm) ?_ (ih r b2 h4);simpa using EM (r:=[]) hx h3
  |any=>exact absurd (hx .any (by simp[gD])) (by simp[vw])
  |lit u=>
   simp only[NR]at h;obtain⟨v,r,b1,b2,rfl,hl,rfl,h3,h4⟩:=h;refine nZ (us:=[v]) (by simp[gD]) ?_ (ih r b2 h4);simp only[gD,aT,dz,oT];exact⟨v,[],b1,[],rfl,by simp,F1 (hx _ (by simp[gD])) h3,rfl⟩
  |sl e' nl ys=>
   simp only[NR]at h;obtain⟨v,r,b1,b2,rfl,hl,rfl,h3,h4⟩:=h;refine nZ (us:=[v]) (by simp[gD]) ?_ (ih r b2 h4);simp only[gD,aT,dz,oT];exact⟨v,[],b1,[],rfl,by simp,F1 (hx _ (by simp[gD])) h3,rfl⟩
theorem Lj{β:gZ}{s:gQ}{id e n b:Nat}{cs:List AV}(hs:sat s id=.oU e n cs)(hb:gy β s id b)(o:Nat):own β s b o:=⟨id,by unfold gy at hb;rw[hs]at hb⊢;exact hb⟩
theorem FD{α:Type}{cs:List α}{j:Nat}{x y:α}(hj:cs[j]?=some x):cs=cs.take j++x::cs.drop (j+1)/\cs.set j y=cs.take j++y::cs.drop (j+1)/\(cs.take j).length=j:=by
 obtain⟨hlt,rfl⟩:=aN.1 hj;refine⟨?_,cL .. |>.trans (aE hlt),by simp;omega⟩;rw[<-aV hlt,bQ]
theorem Cc{e:Nat}:∀{xs:List D},(∀x∈xs,(gD x).length=e)->(jJ xs).length=xs.length*e
 |[],_=>by simp[jJ]
 |y::ys,he=>by rw[Ef,au,aS,he y (by simp),Cc (fun x hx=>he x (by simp[hx])),aK,bk];omega
theorem St.extract{C:Ctx}{β:gZ}{env:List AV}{s:gQ}{a:Act}{w:World}(h:St C β env s a w){id c j e n e':Nat}{nl:Option Bool}{cs:List AV}{xs:List D}
 (hs:sat s id=.oU e n cs) (hj:cs[j]?=some (.dp (.sl e' nl xs))) (hd:sat s c=.dead) (hk:C.k<=c)
 (he:∀x∈xs,(gD x).length=e') (hc:∀x∈xs,∀c∈gD x,vw c=true):
 ∃β',St C β' env (sset (sset s c (.oU e' xs.length (jJ xs))) id (.oU e n (cs.set j (.mL e' c xs.length)))) a w:=by
 have hne:id≠c:=fun h=>by rw[h,hd]at hs;cases hs
 obtain⟨hsp,hsp2,hpl0⟩:=FD (y:=.mL e' c xs.length) hj;rw[hsp2];generalize hpre:cs.take j=pre at hsp hpl0⊢;generalize hpost:cs.drop (j+1)=post at hsp⊢;subst hsp;have ho:=h.inv.obs id;rw[hs]at ho;obtain⟨u,bs,hb,h0,hl,htok⟩:=ho;have hno:β c=.no:=by have:=h.inv.obs c;rw[hd]at this;exact this
 rcases htok with⟨_,h1,_⟩|⟨b,cap,vs,t,rfl,k5,k6,k7,k8,k9,kc,k10,k11⟩
 ·rw[h1]at hl;simp at hl
 obtain⟨hpl,b1,b2',hbs,hn1,hn2⟩:=uQ k11;simp only[oT]at hn2;obtain⟨v,r,B,b2,hvr,hb2,hx,hn3⟩:=hn2;subst hb2;subst hbs;have hx:NV w (.sl e' nl xs) v B:=hx;obtain⟨B',hB',hchild,hgv⟩:∃B',(∀(q o:Nat),((∃cap,v=.slice (some ⟨q,0,none⟩) xs.length cap/\0<cap)\/q∈B')->q∈B/\o=o)/\
  ((∀b∈B',∃vs t',w.heap[b]?=some (.cells vs t' (0,0)))/\∀β' F,AX β' F w e' xs.length v B' (jJ xs))/\
  ((∃a,v=.slice a 0 0/\xs.length=0)\/∃b cap,v=.slice (some ⟨b,0,none⟩) xs.length cap/\xs.length<=cap/\cap<2^63):=by
  have hlen:=Cc he;simp only[NV]at hx;obtain⟨ad,cap2,rfl,hlc,hnl,hx⟩:=hx;have hz:cap2=0->∃B',(∀(q o:Nat),((∃cap,Value.slice ad xs.length cap2=.slice (some ⟨q,0,none⟩) xs.length cap/\0<cap)\/q∈B')->q∈B/\o=o)/\
   ((∀b∈B',∃vs t',w.heap[b]?=some (.cells vs t' (0,0)))/\∀β' F,AX β' F w e' xs.length (.slice ad xs.length cap2) B' (jJ xs))/\
   ((∃a,Value.slice ad xs.length cap2=.slice a 0 0/\xs.length=0)\/∃b cap,Value.slice ad xs.length cap2=.slice (some ⟨b,0,none⟩) xs.length cap/\xs.length<=cap/\cap<2^63):=fun hc0=>by
   have hx0:xs.length=0:=by have:=hlc.1;omega
   refine⟨[],fun q o hq=>?_,⟨by simp,fun β' F=>⟨hlen,.inl ⟨⟨ad,by rw[hx0,hc0]⟩,hx0,rfl⟩⟩⟩,.inl ⟨ad,by rw[hx0,hc0],hx0⟩⟩;rcases hq with⟨q2,hq,hq0⟩|hq
   ·simp only[bw]at hq;omega
   ·simp at hq
  by_cases hc0:cap2=0
  ·exact hz hc0
  rcases hx with⟨hc1,_⟩|⟨g,us,tt,B2,rfl,rfl,g1,g2,g3,g4⟩
  ·exact absurd hc1 hc0
  ·have hnd:(g::B2).Nodup:=by
    have h1:=(bJ.1 k10).2;exact(cg.1 (cg.1 h1).2.1).1
   refine⟨B2,fun q o hq=>?_,⟨fun q hq=>h0 q (by simp[hq]),fun β' F=>⟨hlen,.inr ⟨g,cap2,us,tt,rfl,g1,g2,hlc.1,hlc.2,g3,gu,hnd,AI he hc g4⟩⟩⟩,.inr ⟨g,cap2,rfl,hlc.1,hlc.2⟩⟩;rcases hq with⟨q2,hq,hq0⟩|hq
   ·simp only[bw,aM,dn]at hq;exact⟨by simp[hq.1.1],rfl⟩
   ·exact⟨by simp[hq],rfl⟩
 have hm:gy β s id b:=by unfold gy;rw[hs];exact⟨_,_,hb,.inl ⟨cap,rfl,kc⟩⟩
 have hmb:∀q∈b1++(B++b2),gy β s id q:=fun q hq=>by unfold gy;rw[hs];exact⟨_,_,hb,.inr hq⟩
 have hnod:=bJ.1 k10;have hn1':=cg.1 hnod.2;have hn2':=cg.1 hn1'.2.1;let β':gZ:=gG (gG β c (.jj v xs.length B')) id (.jj (.slice (some ⟨b,0,none⟩) n cap) n (b1++b2));let s':gQ:=sset (sset s c (.oU e' xs.length (jJ xs))) id (.oU e n (pre++ .mL e' c xs.length::post));have hβid:β' id=.jj (.slice (some ⟨b,0,none⟩) n cap) n (b1++b2):=by simp[β',gG]
 have hβc:β' c=.jj v xs.length B':=by simp[β',gG,Ne.symm hne]
 have hβo:∀i,i≠id->i≠c->β' i=β i:=fun i h1 h2=>by simp[β',gG,h1,h2]
 have sat':∀i,sat s' i=if i=id then .oU e n (pre++ .mL e' c xs.length::post)else if i=c then .oU e' xs.length (jJ xs)else sat s i:=fun i=>by simp only[s',iE]
 have hblk:∀i q,gy β' s' i q->(i=id/\(q=b\/q∈b1++b2))\/(i=c/\q∈B)\/(i≠id/\i≠c/\gy β s i q):=by
  intro i q hq;unfold gy at hq;rw[sat']at hq;by_cases hi:i=id
  ·subst hi;rw[aE rfl]at hq;simp only at hq;obtain⟨v',q',h1,h2⟩:=hq;rw[hβid]at h1;cases h1;refine .inl ⟨rfl,?_⟩;rcases h2 with⟨cap',h2,_⟩|h2
   ·simp at h2;exact .inl h2.1.symm
   ·exact .inr h2
  ·rw[aJ hi]at hq;by_cases hi':i=c
   ·subst hi';rw[aE rfl]at hq;simp only at hq;obtain⟨v',q',h1,h2⟩:=hq;rw[hβc]at h1;cases h1;exact .inr (.inl ⟨rfl,(hB' q 0 h2).1⟩)
   ·rw[aJ hi']at hq;refine .inr (.inr ⟨hi,hi',?_⟩);unfold gy;cases hsi:sat s i<;>rw[hsi]at hq<;>simpa[hβo i hi hi']using hq
 have hblk2:∀i q,gy β' s' i q->∃i',gy β s i' q:=fun i q hq=>by
  rcases hblk i q hq with⟨rfl,rfl|h1⟩|⟨rfl,h1⟩|⟨_,_,h1⟩
  ·exact⟨_,hm⟩
  ·refine⟨i,hmb q ?_⟩;rcases aG.1 h1 with h1|h1<;>simp[h1]
  ·exact⟨id,hmb q (by simp[h1])⟩
  ·exact⟨i,h1⟩
 have hown:∀q o,own β' s' q o->own β s q o:=by
  rintro q o ⟨i,ho⟩;by_cases hi:i=id
  ·subst hi;rw[sat',aE rfl]at ho;have:gy β' s' i q:=by unfold gy;rw[sat',aE rfl];exact ho
   obtain⟨_,h1⟩|⟨h1,_⟩|⟨h1,_⟩:=hblk i q this
   ·refine Lj hs ?_ o;rcases h1 with rfl|h1
    ·exact hm
    ·refine hmb q ?_;rcases aG.1 h1 with h1|h1<;>simp[h1]
   ·exact absurd h1 hne
   ·exact absurd rfl h1
  ·by_cases hi':i=c
   ·subst hi';rw[sat',aJ hi,aE rfl]at ho;have:gy β' s' i q:=by unfold gy;rw[sat',aJ hi,aE rfl];exact ho
    obtain⟨h1,_⟩|⟨_,h1⟩|⟨_,h1,_⟩:=hblk i q this
    ·exact absurd h1 hi
    ·exact Lj hs (hmb q (by simp[h1])) o
    ·exact absurd rfl h1
   ·rw[sat',aJ hi,aJ hi']at ho;refine⟨i,?_⟩;cases hsi:sat s i<;>rw[hsi]at ho<;>simpa[hβo i hi hi']using ho
 have hple:∀i,mG (β i) (β' i):=fun i=>by
  by_cases hi:i=id
  ·subst hi;rw[hβid,hb];exact⟨_,_,_,rfl,aO _,fun _=>rfl⟩
  ·by_cases hi':i=c
   ·subst hi';rw[hno];trivial
   ·rw[hβo i hi hi'];exact .refl _
 have hval:∀x v,AV.ok β (C.gO β s) w x v->AV.ok β' (C.gO β' s') w x v:=fun x v hx=>
  AV.ke (fun q o v hc hn=>⟨hc,fun hf=>hn (hf.imp (fun x=>x) (hown q o))⟩) hple _ _ hx
 refine⟨β',h.defers,⟨h.inv.size,h.inv.io,h.inv.keep,h.inv.vr,fun q o ho=>h.inv.sK q o (hown q o ho),fun i q hq=>?_,fun i hi=>(h.inv.pl i hi).trans (hple i),h.inv.low,fun i=>?_,fun i j q hi hj=>?_⟩,h.len,fun i x hx=>hval _ _ (h.env i x hx)⟩
 ·obtain⟨i',h1⟩:=hblk2 i q hq;exact h.inv.uW i' q h1
 ·show vO β' (C.gO β' s') w i (sat s' i);rw[sat'];by_cases hi:i=id
  ·subst hi;rw[aE rfl];refine⟨_,_,hβid,fun q hq=>h0 q (by rcases aG.1 hq with h1|h1<;>simp[h1]),by rw[<-hl];simp,.inr ⟨b,cap,vs,t,rfl,k5,k6,k7,k8,k9,kc,?_,?_⟩⟩
   ·refine bJ.2 ⟨fun hq=>hnod.1 (by rcases aG.1 hq with h1|h1<;>simp[h1]),cg.2 ⟨hn1'.1,hn2'.2.1,fun x hx y hy=>hn1'.2.2 x hx y (by simp[hy])⟩⟩
   ·have e1:=oT.imp (f:=fun x=>x) (β':=β') (O':=C.gO β' s') (w':=w) (qb hval) (fun _ _=>rfl) hn1;have e2:=oT.imp (f:=fun x=>x) (β':=β') (O':=C.gO β' s') (w':=w) (qb hval) (fun _ _=>rfl) hn3;rw[de]at e1 e2;have e3:oT β' (C.gO β' s') w (.mL e' c xs.length::post) (vs.toList.drop pre.length) b2:=by
     rw[hvr];simp only[oT];refine⟨v,r,[],b2,rfl,rfl,⟨?_,rfl⟩,e2⟩;show AV.ok β' (C.gO β' s') w (.mL e' c xs.length) v;simp only[AV.ok];exact⟨v,xs.length,by rw[hβc];exact⟨rfl,rfl⟩,aO _,fun _=>rfl,hgv⟩
    have e4:=nZ (us:=vs.toList.take pre.length) (by rw[aU];omega) (rD (vs:=vs.toList.take pre.length) e1 (by rw[dx,dN])) e3;rwa [bQ]at e4
  ·rw[aJ hi];by_cases hi':i=c
   ·subst hi';rw[aE rfl];exact⟨v,B',hβc,hchild.1,hchild.2 _ _⟩
   ·rw[aJ hi'];have ho:=h.inv.obs i;cases hsi:sat s i with
    |dead=>rw[hsi]at ho;exact(hβo i hi hi').trans ho
    |obj t' cs=>
     rw[hsi]at ho;obtain⟨q,us,h1,h2,h3,h4⟩:=ho;exact⟨q,us,(hβo i hi hi').trans h1,h2,h3,h4.imp fun us' hu=>zB hval hu⟩
    |tok t' e2 n'=>rw[hsi]at ho;obtain⟨u',h1,h2⟩:=ho;exact⟨u',(hβo i hi hi').trans h1,h2⟩
    |lO t' e2 n' cs=>
     rw[hsi]at ho;obtain⟨u',h1,h3,h2⟩:=ho;refine⟨u',(hβo i hi hi').trans h1,h3,?_⟩;rcases h2 with h2|⟨q,cap',us,g2,g3,g4,g5,g6,g7,pre',rest,g8,g9⟩
     ·exact .inl h2
     ·exact .inr ⟨q,cap',us,g2,g3,g4,g5,g6,g7,pre',rest,g8,D.kj (fun q o v hc hn=>⟨hc,fun hf=>hn (hf.imp (fun x=>x) fun ho=>hown q o ho)⟩) _ _ g9⟩
    |jj t' e2 n' cs=>
     rw[hsi]at ho;obtain⟨u',bs',h1,h3,h2⟩:=ho;refine⟨u',bs',(hβo i hi hi').trans h1,h3,?_⟩;have:=h2.imp (f:=fun x=>x) (qb hval) (fun _ _=>rfl) (fun _ _ _=>rfl);rwa [de]at this
    |oU e2 n' cs=>
     rw[hsi]at ho;obtain⟨u',bs',h1,h3,h2⟩:=ho;refine⟨u',bs',(hβo i hi hi').trans h1,h3,?_⟩;have:=h2.imp (f:=fun x=>x) (qb hval) (fun _ _=>rfl) (fun _ _ _ _=>rfl);rwa [de]at this
    |mp P k es=>rw[hsi]at ho;obtain⟨q,h1,h2⟩:=ho;exact⟨q,(hβo i hi hi').trans h1,h2.imp rfl fun x v hx=>D.ke (fun q o v hc hn=>⟨hc,fun hf=>hn (hf.imp (fun x=>x) fun ho=>hown q o ho)⟩) _ _ hx⟩
 ·have hdisj:∀q,q∈B->¬(q=b\/q∈b1++b2):=fun q hq h1=>by
   rcases h1 with rfl|h1
   ·exact hnod.1 (by simp[hq])
   ·rcases aG.1 h1 with h1|h1
    ·exact hn1'.2.2 q h1 q (by simp[hq]) rfl
    ·exact hn2'.2.2 q hq q h1 rfl
  have hid:∀q,(q=b\/q∈b1++b2)->gy β s id q:=fun q h1=>by
   rcases h1 with rfl|h1
   ·exact hm
   ·exact hmb q (by rcases aG.1 h1 with h1|h1<;>simp[h1])
  rcases hblk i q hi with⟨a1,d1⟩|⟨a1,d1⟩|⟨a1,a1',d1⟩<;>rcases hblk j q hj with⟨a2,d2⟩|⟨a2,d2⟩|⟨a2,a2',d2⟩
  ·rw[a1,a2]
  ·exact absurd d1 (hdisj q d2)
  ·exact absurd (h.inv.inj _ _ q d2 (hid q d1)) a2
  ·exact absurd d2 (hdisj q d1)
  ·rw[a1,a2]
  ·exact absurd (h.inv.inj _ _ q d2 (hmb q (by simp[d1]))) a2
  ·exact absurd (h.inv.inj _ _ q d1 (hid q d2)) a1
  ·exact absurd (h.inv.inj _ _ q d1 (hmb q (by simp[d2]))) a1
  ·exact h.inv.inj i j q d1 d2
theorem iB.extract{k:Nat}{env:List AV}{s:gQ}(id c j:Nat){e n e':Nat}{nl:Option Bool}{cs:List AV}{xs:List D}
 (hs:sat s id=.oU e n cs) (hj:cs[j]?=some (.dp (.sl e' nl xs))) (hd:sat s c=.dead) (hk:k<=c)
 (he:∀x∈xs,(gD x).length=e') (hc:∀x∈xs,∀c∈gD x,vw c=true):
 iB k env s env (sset (sset s c (.oU e' xs.length (jJ xs))) id (.oU e n (cs.set j (.mL e' c xs.length)))):=fun C β a w hC hst=>by
 subst hC;exact hst.extract hs hj hd hk he hc
theorem MS{w:World}{e:Nat}{nl:Option Bool}{xs:List D}{v:Value}{B:List Nat}(hx:NV w (.sl e nl xs) v B)(hnd:B.Nodup)(h0:∀b∈B,∃vs t',w.heap[b]?=some (.cells vs t' (0,0)))
 (he:∀x∈xs,(gD x).length=e) (hc:∀x∈xs,∀c∈gD x,vw c=true):
 ∃B',(∀q:Nat,((∃cap,v=.slice (some ⟨q,0,none⟩) xs.length cap/\0<cap)\/q∈B')->q∈B)/\
  ((∀b∈B',∃vs t',w.heap[b]?=some (.cells vs t' (0,0)))/\∀β' F,AX β' F w e xs.length v B' (jJ xs))/\
  ((∃a,v=.slice a 0 0/\xs.length=0)\/∃b cap,v=.slice (some ⟨b,0,none⟩) xs.length cap/\xs.length<=cap/\cap<2^63):=by
 have hlen:=Cc he;simp only[NV]at hx;obtain⟨ad,cap2,rfl,hlc,hnl,hx⟩:=hx;by_cases hc0:cap2=0
 ·have hx0:xs.length=0:=by have:=hlc.1;omega
  refine⟨[],fun q hq=>?_,⟨by simp,fun β' F=>⟨hlen,.inl ⟨⟨ad,by rw[hx0,hc0]⟩,hx0,rfl⟩⟩⟩,.inl ⟨ad,by rw[hx0,hc0],hx0⟩⟩;rcases hq with⟨q2,hq,hq0⟩|hq
  ·simp only[bw]at hq;omega
  ·simp at hq
 rcases hx with⟨hc1,_⟩|⟨g,us,tt,B2,rfl,rfl,g1,g2,g3,g4⟩
 ·exact absurd hc1 hc0
 ·refine⟨B2,fun q hq=>?_,⟨fun q hq=>h0 q (by simp[hq]),fun β' F=>⟨hlen,.inr ⟨g,cap2,us,tt,rfl,g1,g2,hlc.1,hlc.2,g3,gu,hnd,AI he hc g4⟩⟩⟩,.inr ⟨g,cap2,rfl,hlc.1,hlc.2⟩⟩;rcases hq with⟨q2,hq,hq0⟩|hq
  ·simp only[bw,aM,dn]at hq;simp[hq.1.1]
  ·simp[hq]
def toks(tl:List (Nat×Nat×List D)):gQ:=tl.map fun p=>(p.1,.oU p.2.1 p.2.2.length (jJ p.2.2))
theorem D2:∀{tl:List (Nat×Nat×List D)}{id:Nat},sat (toks tl) id=.dead\/∃e ds,(id,e,ds)∈tl/\sat (toks tl) id=.oU e ds.length (jJ ds)
 |[],_=>.inl rfl
 |(i,e,ds)::r,id=>by
  simp only[toks,aT,sat];by_cases h:id=i
  ·subst h;exact .inr ⟨e,ds,by simp,by simp⟩
  ·rcases D2 (tl:=r) (id:=id)with h1|⟨e',ds',h1,h2⟩
   ·left;rw[aJ h];exact h1
   ·right;exact⟨e',ds',by simp[h1],by rw[aJ h];exact h2⟩
mutual
def mM:AV->List (Nat×Nat×List D)
 |.own e id ds=>[(id,e,ds)]
 |.agg cs=>vU cs
 |.oz cs=>vU cs
 |_=>[]
def vU:List AV->List (Nat×Nat×List D)
 |[]=>[]
 |x::xs=>mM x++vU xs
end
mutual
def En:AV->AV
 |.own e id ds=>.mL e id ds.length
 |.agg cs=>.agg (Ju cs)
 |.oz cs=>.oz (Ju cs)
 |.d (.lit u)=>.d (.lit u)
 |_=>.iN
def Ju:List AV->List AV
 |[]=>[]
 |x::xs=>En x::Ju xs
end
mutual
theorem IG{β:gZ}{O:Own}{w:World}:∀{x:AV}{v:Value},AV.ok β O w x v->∀p∈mM x,∃u,AV.ok β O w (.own p.2.1 p.1 p.2.2) u
 |.own e id ds,v,h,p,hp=>by
  simp only[mM,bS]at hp;subst hp;exact⟨v,h⟩
 |.agg cs,v,h,p,hp=>by
  simp only[AV.ok]at h;obtain⟨vs,rfl,_,h⟩:=h;exact Cb h p (by simpa[mM]using hp)
 |.oz cs,v,h,p,hp=>by
  simp only[AV.ok]at h;obtain⟨vs,rfl,h⟩:=h;exact Cb h p (by simpa[mM]using hp)
 |.iN,_,_,p,hp=>by simp[mM]at hp
 |.d _,_,_,p,hp=>by simp[mM]at hp
 |.ptr _ _,_,_,p,hp=>by simp[mM]at hp
 |.tS _ _ _ _,_,_,p,hp=>by simp[mM]at hp
 |.pv _,_,_,p,hp=>by simp[mM]at hp
 |.fn _ _ _,_,_,p,hp=>by simp[mM]at hp
 |.mL _ _ _,_,_,p,hp=>by simp[mM]at hp
 |.mJ _ _ _,_,_,p,hp=>by simp[mM]at hp
 |.BZ _ _,_,_,p,hp=>by simp[mM]at hp
 |.nm _ _ _,_,_,p,hp=>by simp[mM]at hp
 |.dp _,_,_,p,hp=>by simp[mM]at hp
 |.mp _,_,_,p,hp=>by simp[mM]at hp
theorem Cb{β:gZ}{O:Own}{w:World}:∀{xs:List AV}{vs:List Value},AV.iK β O w xs vs->∀p∈vU xs,∃u,AV.ok β O w (.own p.2.1 p.1 p.2.2) u
 |[],_,_,p,hp=>by simp[vU]at hp
 |x::xs,vs,h,p,hp=>by
  simp only[AV.iK]at h;obtain⟨v,r,rfl,h1,h2⟩:=h;simp only[vU,aG]at hp;rcases hp with hp|hp
  ·exact IG h1 p hp
  ·exact Cb h2 p hp
end
mutual
theorem OB{β β':gZ}{O O':Own}{w:World}{tl:List (Nat×Nat×List D)}(hb:∀e id ds v,(id,e,ds)∈tl->AV.ok β O w (.own e id ds) v->AV.ok β' O' w (.mL e id ds.length) v):
 ∀{x:AV}{v:Value},(∀p∈mM x,p∈tl)->AV.ok β O w x v->AV.ok β' O' w (En x) v
 |.own e id ds,v,hp,h=>hb e id ds v (hp _ (by simp[mM])) h
 |.agg cs,v,hp,h=>by
  simp only[En,AV.ok]at h⊢;obtain⟨vs,rfl,h1,h⟩:=h;exact⟨vs,rfl,h1,F_ hb (by simpa[mM]using hp) h⟩
 |.oz cs,v,hp,h=>by
  simp only[En,AV.ok]at h⊢;obtain⟨vs,rfl,h⟩:=h;exact⟨vs,rfl,F_ hb (by simpa[mM]using hp) h⟩
 |.d (.lit u),v,_,h=>by simp only[En,AV.ok,D.ok]at h⊢;exact h
 |.d .any,_,_,_=>by simp[En,AV.ok]
 |.d (.agg _),_,_,_=>by simp[En,AV.ok]
 |.d (.sl _ _ _),_,_,_=>by simp[En,AV.ok]
 |.iN,_,_,_=>by simp[En,AV.ok]
 |.ptr _ _,_,_,_=>by simp[En,AV.ok]
 |.tS _ _ _ _,_,_,_=>by simp[En,AV.ok]
 |.pv _,_,_,_=>by simp[En,AV.ok]
 |.fn _ _ _,_,_,_=>by simp[En,AV.ok]
 |.mL _ _ _,_,_,_=>by simp[En,AV.ok]
 |.mJ _ _ _,_,_,_=>by simp[En,AV.ok]
 |.BZ _ _,_,_,_=>by simp[En,AV.ok]
 |.nm _ _ _,_,_,_=>by simp[En,AV.ok]
 |.dp _,_,_,_=>by simp[En,AV.ok]
 |.mp _,_,_,_=>by simp[En,AV.ok]
theorem F_{β β':gZ}{O O':Own}{w:World}{tl:List (Nat×Nat×List D)}(hb:∀e id ds v,(id,e,ds)∈tl->AV.ok β O w (.own e id ds) v->AV.ok β' O' w (.mL e id ds.length) v):
 ∀{xs:List AV}{vs:List Value},(∀p∈vU xs,p∈tl)->AV.iK β O w xs vs->AV.iK β' O' w (Ju xs) vs
 |[],_,_,h=>by simpa[Ju,AV.iK]using h
 |x::xs,vs,hp,h=>by
  simp only[Ju,AV.iK]at h⊢;obtain⟨v,r,rfl,h1,h2⟩:=h;exact⟨v,r,rfl,OB hb (fun p hq=>hp p (by simp[vU,hq])) h1,F_ hb (fun p hq=>hp p (by simp[vU,hq])) h2⟩
end
theorem Whole.len{C:Ctx}{β:gZ}{s:gQ}{w:World}(h:Inv C β s w){id e:Nat}{ds:List D}(hw:Whole s id e ds):∃u,(β id).at u ds.length/\∀v m,(β id).at v m->v=u/\m=ds.length:=by
 have ho:=h.obs id;rcases hw with⟨t,rfl,h1,_⟩|⟨t,h1,_,_⟩
 ·rw[h1]at ho;obtain⟨u,hb,_⟩:=ho;rw[hb];exact⟨u,⟨rfl,rfl⟩,fun v m hv=>⟨hv.1.symm,hv.2.symm⟩⟩
 ·rw[h1]at ho;obtain⟨u,bs,hb,_⟩:=ho;rw[hb];exact⟨u,⟨rfl,rfl⟩,fun v m hv=>⟨hv.1.symm,hv.2.symm⟩⟩
theorem Whole.cond{s:gQ}{id e:Nat}{ds:List D}(hw:Whole s id e ds):(∀x∈ds,(gD x).length=e)/\∀x∈ds,∀c∈gD x,vw c=true:=by
 rcases hw with⟨t,rfl,h1,h2⟩|⟨t,h1,h2,h3⟩
 ·refine⟨fun x hx=>?_,fun x hx c hc=>?_⟩
  ·have:=h2 x hx;cases x with
   |lit u=>rfl
   |_=>cases this
  ·have:=h2 x hx;cases x with
   |lit u=>simp only[gD,bS]at hc;subst hc;rfl
   |_=>cases this
 ·exact⟨h2,h3⟩
theorem CC:∀{tl:List (Nat×Nat×List D)}{id e:Nat}{ds:List D},(id,e,ds)∈tl->sat (toks tl) id≠ .dead
 |[],_,_,_,h=>by simp at h
 |(i,e',ds')::r,id,e,ds,hm=>by
  simp only[toks,aT,sat];by_cases hq:id=i
  ·rw[aE hq];exact fun h=>nomatch h
  ·rw[aJ hq];refine CC (tl:=r) (e:=e) (ds:=ds) ?_;rcases bt.1 hm with h|h
   ·simp only[cI]at h;exact absurd h.1 hq
   ·exact h
class LL {α:Type} (f:α->D):Prop where
 lit:∀x,JT (f x)=true
class Cl {α:Type} (f:α->D):Prop where
 cl:∀x,∀c∈gD (f x),vw c=true
instance:LL iD:=⟨fun _=>rfl⟩
instance:LL bD:=⟨fun _=>rfl⟩
instance:LL sD:=⟨fun _=>rfl⟩
instance{k:IntKind}:LL (kD k):=⟨fun _=>rfl⟩
instance:Cl iD:=⟨fun _ c h=>by simp only[iD,gD,bS]at h;subst h;rfl⟩
instance:Cl bD:=⟨fun _ c h=>by simp only[bD,gD,bS]at h;subst h;rfl⟩
instance:Cl sD:=⟨fun _ c h=>by simp only[sD,gD,bS]at h;subst h;rfl⟩
instance{k:IntKind}:Cl (kD k):=⟨fun _ c h=>by simp only[kD,gD,bS]at h;subst h;rfl⟩
instance{α:Type}{e:Nat}{f:α->D}:Cl (gN e f):=⟨fun _ c h=>by simp only[gN,gD,bS]at h;subst h;rfl⟩
theorem Cl.agg{α:Type}{f:α->D}(g:α->List D)(hf:∀x,f x=.agg (g x))(h:∀x,(g x).all vw=true):Cl f:=⟨fun x c hc=>by
 rw[hf]at hc;exact cc.1 (h x) c hc⟩
section
variable{α:Type}{f:α->D}{e n id:Nat}{s:gQ}{xs ys:List α}
theorem zW[uK f e][Cl f]:(∀x∈xs.map f,(gD x).length=e)/\∀x∈xs.map f,∀c∈gD x,vw c=true:=
 ⟨fun x hx=>by obtain⟨y,_,rfl⟩:=bF.1 hx;exact uK.len y,fun x hx=>by obtain⟨y,_,rfl⟩:=bF.1 hx;exact Cl.cl y⟩
theorem Whole.flat{t:Nat}[LL f](h:sat s id=.tok t 1 n)(hn:n=xs.length):Whole s id 1 (xs.map f):=
 .inl ⟨t,rfl,by rw[h,hn,aS],fun x hx=>by obtain⟨y,_,rfl⟩:=bF.1 hx;exact LL.lit y⟩
theorem Whole.deep{t:Nat}[uK f e][Cl f](h:sat s id=.jj t e n (jJ (xs.map f)))(hn:n=xs.length):Whole s id e (xs.map f):=
 .inr ⟨t,by rw[h,hn,aS],zW.1,zW.2⟩
theorem LD(f:α->D)(xs:List α):jJ (xs.map f)=(jT f xs).map yV:=rfl
theorem Qi[uK f e]:(jJ (xs.map f)).length=xs.length*e:=by rw[LD,aS,Gj]
theorem UD{i e k m:Nat}(hi:i<m)(hk:k<e):i*e+k<m*e:=
 eE (Nat.add_lt_add_left hk _) (by rw[<-Nat.succ_mul];exact bG _ hi)
variable[Inhabited α]{i k:Nat}
theorem SN[uK f e](hi:i<xs.length)(hk:k<e):(jJ (xs.map f))[i*e+k]?=some (yV ((gD (f (xs.getD i default))).getD k .any)):=by
 have h1:=K3 (f:=f) (e:=e) (d:=.any) hi hk;have hlt:i*e+k<(jT f xs).length:=by rw[Gj];exact UD hi hk
 rw[LD,bA,aA hlt,<-h1,aB,aA hlt];rfl
end
theorem iB.Gz{k:Nat}{env:List AV}{s:gQ}(id:Nat){t e n:Nat}{cs:List AV}(cs':List AV)(hs:sat s id=.jj t e n cs)(h:cs=cs'):iB k env s env (sset s id (.jj t e n cs')):=fun C β a w hC hst=>by
 subst h;have:(sat (sset s id (.jj t e n cs)))=sat s:=by funext i;rw[iE];split<;>simp_all
 exact⟨β,hst.defers,(hst.inv.told fun i=>by rw[this];exact yp.refl _).1,hst.len,fun i x hx=>by
  rw[(hst.inv.told (s':=sset s id (.jj t e n cs)) fun i=>by rw[this];exact yp.refl _).2];exact hst.env i x hx⟩
theorem gx.GA{k:Nat}{x y:AV}{s t:gQ}(h:iB k [x] s [y] t):gx k x s y t:=fun C β w v hC hi hx=>by
 obtain⟨β',h1⟩:=h C β {tmps:=#[v],defers:=[]} w hC ⟨.nil,hi,rfl,fun i z hz=>by
  cases i with
  |zero=>simp at hz;subst hz;simpa using hx
  |succ i=>simp at hz⟩
 exact⟨β',h1.inv,by simpa using h1.env 0 y rfl⟩
attribute [go_sem] gA wz
attribute [go_sem] gw
def eD{α:Type}(f:α->D)(M:List (Lit×α)):List (Lit×D):=M.map fun p=>(p.1,f p.2)
section
variable{α:Type}{f:α->D}{M:List (Lit×α)}{kl:Lit}{x:α}
theorem Ux:eD f []=[]:=rfl
theorem RK:eD f ((kl,x)::M)=(kl,f x)::eD f M:=rfl
end
theorem Ov{id:Nat}:AV.cells (.mp id)=some [.mp id]:=rfl
theorem SP{id:Nat}{xs:List AV}:AV.rf (.mp id::xs)=none:=rfl
theorem JK{v:Value}:Ay (.lit v)=false:=rfl
theorem Mp{e:Nat}{nl:Option Bool}{xs:List D}:Ay (.sl e nl xs)=false:=rfl
theorem JL{α:Type}{e:Nat}{f:α->D}{xs:List α}:Ay (gN e f xs)=false:=rfl
attribute [go_sem] Ux RK Ov SP JK Mp JL
section
variable{P:Program}{k:Nat}{Q:Post}{env:List AV}{s:gQ}
end
theorem mf{P:Program}{f:Nat}{mc:gR}{n:Nat}{rs:List wE}{fn:Func}(h1:P.funcs[f]?=some fn)(h3:fn.ntmps=n)(h2:fn.body.bind (pW P)=some mc.erase:=by kernel_rfl)
 (h4:fn.results.toList.mapM (zS P)=some rs:=by kernel_rfl):lE P f mc n rs:=⟨fn,h1,h2,h3,h4⟩
section
variable{α γ:Type}{P:Program}{k0 f:Nat}{args env:List AV}{s:gQ}{d:Option Nat}{R:List AV->gQ->Prop}{x:Option α}{β:Type}{K:α->Option β}{r:β}{q:α->Prop}
end
theorem iB.xg{k:Nat}{env:List AV}{s:gQ}(id id' q:Nat){pre0 L:List AV}{t e n e':Nat}{xs':List D}(hs:sat s id=.jj t e n (pre0++L))(hq:L[q]?=some (.own e' id' xs'))
 (hk:k<=id') (hne:id≠id') (hw:Whole s id' e' xs'):
 iB k env s (AV.gY (gC id') env) (sset (gS id' s) id (.jj t e n (AV.gY (gC id') pre0++(AV.gY (gC id') L).set q (.dp (.sl e' none xs'))))):=by
 obtain⟨h1,h2,h3⟩:=FD (y:=AV.dp (.sl e' none xs')) hq;have h4:(AV.gY (gC id') L).set q (.dp (.sl e' none xs'))=AV.gY (gC id') (L.take q)++ .dp (.sl e' none xs')::AV.gY (gC id') (L.drop (q+1)):=by
  have e1:=bW (AV.gY (gC id')) h2;rw[wz,gA]at e1;simpa[AV.gY,AV.hG]using e1
 have:=iB.I5 (env:=env) id id' (pre0++L.take q) (L.drop (q+1)) hs (by
  conv=>lhs;rw[h1]
  rw[aI]) hk hne hw
 rw[gA,aI,<-h4]at this;exact this
theorem iB.kV{k:Nat}{env:List AV}{s:gQ}(id id' q:Nat){L:List AV}{t e n e':Nat}{xs':List D}(hs:sat s id=.jj t e n L)(hq:L[q]?=some (.own e' id' xs'))
 (hk:k<=id') (hne:id≠id') (hw:Whole s id' e' xs'):
 iB k env s (AV.gY (gC id') env) (sset (gS id' s) id (.jj t e n ((AV.gY (gC id') L).set q (.dp (.sl e' none xs'))))):=
 iB.xg (pre0:=[]) id id' q hs hq hk hne hw
attribute [go_sem] List.set_cons_zero List.set_cons_succ
theorem gx.kV{k:Nat}{x:AV}{s:gQ}(id id' q:Nat){L:List AV}{t e n e':Nat}{xs':List D}(hs:sat s id=.jj t e n L)(hq:L[q]?=some (.own e' id' xs'))
 (hk:k<=id') (hne:id≠id') (hw:Whole s id' e' xs'):
 gx k x s (x.hG (gC id')) (sset (gS id' s) id (.jj t e n ((AV.gY (gC id') L).set q (.dp (.sl e' none xs'))))):=
 gx.GA (by have:=iB.kV (env:=[x]) id id' q hs hq hk hne hw;simpa only[AV.gY]using this)
theorem gx.Gz{k:Nat}{x:AV}{s:gQ}(id:Nat){t e n:Nat}{cs:List AV}(cs':List AV)(hs:sat s id=.jj t e n cs)(h:cs=cs'):gx k x s x (sset s id (.jj t e n cs')):=
 gx.GA (iB.Gz id cs' hs h)
theorem PD:uN []=true:=(rfl)
theorem U0{x:D}{xs:List AV}:uN (.d x::xs)=uN xs:=(rfl)
theorem PE{e id:Nat}{ds:List D}{xs:List AV}:uN (.own e id ds::xs)=uN xs:=(rfl)
theorem PB{e id n:Nat}{xs:List AV}:uN (.mL e id n::xs)=uN xs:=(rfl)
attribute [go_sem] PD U0 PE PB
theorem G8{xs:List AV}:yX xs xs<->True:=⟨fun _=>trivial,fun _=>yX.refl xs⟩
attribute [go_sem] G8 ne_eq not_false_eq_true
section
variable{α γ:Type}[Inhabited α]{f:α->D}{f':γ->D}{e e' n k0:Nat}{s:gQ}{env:List AV}{xs:List α}{y y':α}{ys:List γ}{i k:Nat}
theorem P9(hi:i<xs.length):xs.set i (xs.getD i default)=xs:=by
 rw[aB,aA hi];exact List.set_getElem_self hi
theorem EB(hi:i<xs.length):(xs.set i y).getD i default=y:=by rw[aB,List.getElem?_set_self hi];rfl
theorem Qh[uK f e](hi:i<xs.length)(hk:k<e):(jJ ((xs.set i y).map f))[i*e+k]?=some (yV ((gD (f y)).getD k .any)):=by
 have:=SN (f:=f) (e:=e) (xs:=xs.set i y) (i:=i) (k:=k) (by simpa using hi) hk;rwa [EB hi]at this
end
attribute [go_sem] Qi
attribute [go_sem] Sum.elim_inl Sum.elim_inr
section
variable{P:Program}{k0 f:Nat}{args env:List AV}{s:gQ}{d:Option Nat}{R:List AV->gQ->Prop}
end
section
variable{P:Program}{k:Nat}{Q:Post}{env:List AV}{s:gQ}
end
section
variable{E:Ending->Value->Prop}{P:Program}{f:Nat}
end
section
variable{P:Program}{k:Nat}{Q:Post}{env:List AV}{s:gQ}{K:List AV->gQ->Prop}{pv:Value}
end
theorem iB.Ic{k:Nat}{env:List AV}{s:gQ}(id:Nat){t e n:Nat}{cs:List AV}(cs':List AV)(hs:sat s id=.jj t e n cs)(h:yX cs cs'):iB k env s env (sset s id (.jj t e n cs')):=fun C β a w hC hst=>by
 have hq:∀i,yp (sat s i) (sat (sset s id (.jj t e n cs')) i):=fun i=>by
  rw[iE];by_cases hi:i=id
  ·subst hi;rw[aE rfl,hs];exact⟨rfl,rfl,rfl,h⟩
  ·rw[aJ hi];exact yp.refl _
 obtain⟨h1,h2⟩:=hst.inv.told hq;exact⟨β,hst.defers,h1,hst.len,fun i x hx=>by rw[h2];exact hst.env i x hx⟩
theorem gx.Ic{k:Nat}{x:AV}{s:gQ}(id:Nat){t e n:Nat}{cs:List AV}(cs':List AV)(hs:sat s id=.jj t e n cs)(h:yX cs cs'):gx k x s x (sset s id (.jj t e n cs')):=
 gx.GA (iB.Ic id cs' hs h)
theorem gT{i:Nat}{o:Ob}{s:gQ}:sat ((i,o)::s) i=o:=by simp[sat]
theorem gK{i j:Nat}{o:Ob}{s:gQ}(h:j≠i):sat ((i,o)::s) j=sat s j:=by simp[sat,h]
theorem SF{j:Nat}:sat [] j=.dead:=rfl
theorem gL{i:Nat}{o x:Ob}{s:gQ}:sset ((i,o)::s) i x=(i,x)::s:=by simp[sset]
theorem gV{i j:Nat}{o x:Ob}{s:gQ}(h:i<j):sset ((j,o)::s) i x=(i,x)::(j,o)::s:=by simp[sset,h,Nat.ne_of_lt h]
theorem gU{i j:Nat}{o x:Ob}{s:gQ}(h:j<i):sset ((j,o)::s) i x=(j,o)::sset s i x:=by simp[sset,Nat.ne_of_gt h,Nat.not_lt_of_gt h]
theorem gM{i:Nat}{x:Ob}:sset [] i x=[(i,x)]:=rfl
attribute [go_sem] gT gK SF gL gV gU gM
theorem UY{u:Value}{e:Nat}{xs:List D}:y_ (.nm u e xs)=none:=rfl
theorem Ow{u:Value}{e:Nat}{xs:List D}:AV.cells (.nm u e xs)=some [.nm u e xs]:=rfl
theorem SQ{u:Value}{e:Nat}{ys:List D}{xs:List AV}:AV.rf (.nm u e ys::xs)=none:=rfl
theorem R8{u:Value}{e:Nat}{xs:List D}{env:List AV}{s:gQ}:JS env s (.nm u e xs)=.ok (.d (iD xs.length)) env s:=(rfl)
theorem R7{u:Value}{e:Nat}{xs:List D}:MA (.nm u e xs)=.ok (.d (iD xs.length)) []:=(rfl)
theorem OZ{u:Value}{e e':Nat}{n:Int}{xs:List D}{env:List AV}{s:gQ}:DK e n env s (.nm u e' xs)=HU e n env s (some (e',xs)):=(rfl)
theorem OY{u:Value}{e e':Nat}{n:Int}{xs:List D}:Fl e n (.nm u e' xs)=K7 e n (some (e',xs)):=(rfl)
attribute [go_sem] UY Ow SQ R8 R7 OZ OY
theorem K_{β β':gZ}{O O':Own}{w w':World}:∀{cs:List AV}{vs:List Value},(∀x∈cs,∃u,x=.d (.lit u))->AV.iK β O w cs vs->AV.iK β' O' w' cs vs
 |[],vs,_,h=>by simpa[AV.iK]using h
 |x::xs,vs,hc,h=>by
  obtain⟨u,rfl⟩:=hc x (by simp);simp only[AV.iK]at h⊢;obtain⟨v,r,rfl,h1,h2⟩:=h;refine⟨v,r,rfl,?_,K_ (fun y hy=>hc y (by simp[hy])) h2⟩;simp only[AV.ok,D.ok]at h1⊢;exact h1
theorem hY.PA{P:Program}{f:Nat}{e0:Nat}{c0:List D}{R:AV->gQ->Prop}(h:∀u:Value,hY P f [.nm u e0 c0] [] 0 R):hY P f [.d (.sl e0 none c0)] [] 0 R:=fun C vs hs hk hinv hargs=>by
 have hv:∃v,vs.toList=[v]/\AV.ok C.β (C.gO C.β C.s) C.w (.d (.sl e0 none c0)) v:=by
  simp only[AV.iK]at hargs;obtain⟨v,r,h1,h2,rfl⟩:=hargs;exact⟨v,h1,h2⟩
 obtain⟨v,h1,h2⟩:=hv;refine h v C vs hs hk hinv ?_;rw[h1];simp only[AV.iK,AV.ok]at h2⊢;exact⟨v,[],rfl,⟨rfl,h2⟩,rfl⟩
theorem hY.aak{P:Program}{f:Nat}{args:List AV}{y:AV}{t:gQ}{ty e0:Nat}{u0:Value}{c0:List D}{cs cs':List AV}
 (hc:hY P f args [(0,.obj ty (.nm u0 e0 c0::cs))] 1 fun x s'=>x=y/\s'=t)
 (h0:sat t 0=.obj ty (.nm u0 e0 c0::cs')) (hl:∀x∈cs',∃u,x=.d (.lit u)) (hn:∀p∈mM y,p.1≠0)
 (hw:∀p∈mM y,Whole t p.1 p.2.1 p.2.2) {y':AV} {t':gQ} (hy:En y=y') (ht:(0,.obj ty (.nm u0 e0 c0::cs'))::toks (mM y)=t'):
 hY P f args [(0,.obj ty (.nm u0 e0 c0::cs))] 1 fun x s'=>x=y'/\s'=t':=fun C vs hs hk hinv hargs=>by
 subst hy;subst ht;refine(hc C vs hs hk hinv hargs).mono ?_;rintro e w' ⟨v,x,β',s',rfl,hi,hx,rfl,rfl⟩;have hold:∀i b,gy C.β C.s i b->∀o,own C.β C.s b o:=fun i b h o=>by
  unfold gy at h;rw[hs]at h;by_cases hi0:i=0
  ·subst hi0;have h:C.β 0=.CU b:=h;exact⟨0,by rw[hs];exact h⟩
  ·simp only[sat,hi0,ay]at h
 have hsat:=fun id e ds=>CC (tl:=mM x) (id:=id) (e:=e) (ds:=ds)
 have ht0:sat (toks (mM x)) 0=.dead:=by
  rcases D2 (tl:=mM x) (id:=0)with h|⟨e,ds,h1,h2⟩
  ·exact h
  ·exact absurd rfl (hn _ h1)
 obtain⟨β2,hβ2⟩:=Classical.axiomOfChoice (r:=fun(id:Nat)(pl:Place)=>(id=0/\pl=β' 0)\/(id≠0/\sat (toks (mM x)) id=.dead/\pl=.no)\/∃e ds u B',id≠0/\(id,e,ds)∈mM x/\sat (toks (mM x)) id=.oU e ds.length (jJ ds)/\
  pl=.jj u ds.length B'/\(β' id).at u ds.length/\(∀q:Nat,((∃cap,u=.slice (some ⟨q,0,none⟩) ds.length cap/\0<cap)\/q∈B')->gy β' s' id q)/\
  (∀b∈B',∃vs t',w'.heap[b]?=some (.cells vs t' (0,0)))/\(∀β F,AX β F w' e ds.length u B' (jJ ds))/\
  ((∃a,u=.slice a 0 0/\ds.length=0)\/∃b cap,u=.slice (some ⟨b,0,none⟩) ds.length cap/\ds.length<=cap/\cap<2^63)) (fun id=>by
  by_cases hid:id=0
  ·exact⟨_,.inl ⟨hid,rfl⟩⟩
  rcases D2 (tl:=mM x) (id:=id)with h|⟨e,ds,h1,h2⟩
  ·exact⟨.no,.inr (.inl ⟨hid,h,rfl⟩)⟩
  ·obtain⟨u,hu⟩:=IG hx _ h1;have hW:=hw _ h1;obtain⟨B,g1,g2,g3⟩:=hW.nv hi u hu;obtain⟨B',k1,⟨k2,k3⟩,k4⟩:=MS g3 g1 (fun b hb=>(g2 b hb).2) hW.cond.1 hW.cond.2;obtain⟨u',l1,l2⟩:=hW.len hi;have huu:u=u':=by
    simp only[AV.ok]at hu;obtain⟨_,p,n,m1,m2,m3⟩:=hu;obtain⟨rfl,rfl⟩:=l2 _ _ m1;exact m3 rfl
   subst huu;exact⟨_,.inr (.inr ⟨e,ds,u,B',hid,h1,h2,rfl,l1,fun q hq=>(g2 q (k1 q hq)).1,k2,k3,k4⟩)⟩)
 have hz:β2 0=β' 0:=by
  rcases hβ2 0 with⟨_,h⟩|⟨h,_⟩|⟨_,_,_,_,h,_⟩
  ·exact h
  ·exact absurd rfl h
  ·exact absurd rfl h
 have hcons:∀id,id≠0->sat ((0,.obj ty (.nm u0 e0 c0::cs'))::toks (mM x)) id=sat (toks (mM x)) id:=fun id h=>by simp only[sat,h,ay]
 have hcons0:sat ((0,.obj ty (.nm u0 e0 c0::cs'))::toks (mM x)) 0=.obj ty (.nm u0 e0 c0::cs'):=by simp only[sat,aj]
 have hblk:∀id b,gy β2 ((0,.obj ty (.nm u0 e0 c0::cs'))::toks (mM x)) id b->gy β' s' id b:=fun id b hb=>by
  rcases hβ2 id with⟨rfl,h1⟩|⟨h0,h1,_⟩|⟨e,ds,u,B',h0,h1,h2,h3,h4,h5,_⟩
  ·unfold gy at hb⊢;rw[hcons0]at hb;rw[‹sat s' 0=_›];rw[hz]at hb;exact hb
  ·unfold gy at hb;rw[hcons id h0,h1]at hb;exact hb.elim
  ·unfold gy at hb;rw[hcons id h0,h2]at hb;obtain⟨v',bs,e1,e2⟩:=hb;rw[h3]at e1;cases e1;exact h5 b e2
 have hown:∀b o,own β2 ((0,.obj ty (.nm u0 e0 c0::cs'))::toks (mM x)) b o->own C.β C.s b o\/C.w.heap.size<=b:=fun b o ho=>by
  obtain⟨id,h⟩:=ho.block;rcases hi.uW id b (hblk id b h)with⟨i,h2⟩|h2
  ·exact .inl (hold i b h2 o)
  ·exact .inr h2
 refine⟨v,En x,β2,_,rfl,⟨hi.size,hi.io,hi.keep,hi.vr,hown,fun id b hb=>hi.uW id b (hblk id b hb),fun id hid=>?_,hi.low,fun id=>?_,fun i j b h1 h2=>hi.inj i j b (hblk i b h1) (hblk j b h2)⟩,
  OB (tl:=mM x) (fun e id ds v hm hv=>?_) (fun p hp=>hp) hx,rfl,rfl⟩
 ·obtain rfl:id=0:=by omega
  rw[hz];exact hi.pl 0 hid
 ·rcases hβ2 id with⟨rfl,h1⟩|⟨h0,h1,h2⟩|⟨e,ds,u,B',h0,h1,h2,h3,h4,h5,h6,h7,_⟩
  ·rw[hcons0];have ho:=hi.obs 0;rw[‹sat s' 0=_›]at ho;obtain⟨b,us,k1,k2,k3,pre,rest,k4,k5⟩:=ho;refine⟨b,us,h1.trans k1,k2,k3,pre,rest,k4,?_⟩;simp only[AV.iK,AV.ok]at k5⊢;obtain⟨v1,r1,rfl,⟨rfl,_⟩,k6⟩:=k5;refine⟨v1,r1,rfl,⟨rfl,?_⟩,K_ hl k6⟩;have hp:=hinv.obs 0;rw[hs]at hp;obtain⟨b',us',_,_,_,pre',rest',_,q5⟩:=hp;simp only[AV.iK,AV.ok]at q5;obtain⟨v2,r2,_,⟨rfl,q6⟩,_⟩:=q5;refine D.ke (fun b o v hcell hno=>⟨hi.keep b o v hcell fun h=>hno (.inr (hs▸h)),fun h=>?_⟩) _ _ q6;rcases h with h|h
   ·exact hno (.inl h)
   ·rcases hown b o h with h|h
    ·exact hno (.inr (hs▸h))
    ·have:=uZ hcell;omega
  ·rw[hcons id h0,h1];exact h2
  ·rw[hcons id h0,h2];exact⟨u,B',h3,h6,h7 _ _⟩
 ·rcases hβ2 id with⟨rfl,_⟩|⟨_,h1,_⟩|⟨e2,ds2,u,B',h0,h1,h2,h3,h4,h5,h6,h7,h8⟩
  ·exact absurd rfl (hn _ hm)
  ·exact absurd h1 (hsat id e ds hm)
  ·have hW:=hw _ hm;obtain⟨u',l1,l2⟩:=hW.len hi;obtain⟨rfl,hlen⟩:=l2 _ _ h4;simp only[AV.ok]at hv⊢;obtain⟨_,p,n,m1,m2,m3⟩:=hv;obtain⟨rfl,rfl⟩:=l2 _ _ m1;obtain rfl:=m3 rfl;exact⟨v,ds2.length,by rw[h3];exact⟨rfl,rfl⟩,gu,fun _=>rfl,by rw[<-hlen];exact h8⟩
theorem iq{i:Nat}:gS i []=[]:=rfl
theorem ij{i:Nat}{x:Ob}{r:gQ}:gS i ((i,x)::r)=(i,.dead)::gS i r:=by simp[gS]
theorem gX{i j:Nat}{x:Ob}{r:gQ}(h:j≠i):gS i ((j,x)::r)=(j,x.kill i)::gS i r:=by simp[gS,h]
theorem ig{i:Nat}:jv i []=[]:=rfl
theorem ie{i:Nat}{x:Ob}{r:gQ}:jv i ((i,x)::r)=jv i r:=by simp[jv]
theorem gW{i j:Nat}{x:Ob}{r:gQ}(h:j≠i):jv i ((j,x)::r)=(j,x.kill i)::jv i r:=by simp[jv,h]
theorem iJ{i j:Nat}{ob:Ob}:iG i j ob []=[(j,ob)]:=rfl
theorem iI{i j:Nat}{ob x:Ob}{r:gQ}:iG i j ob ((i,x)::r)=iG i j ob r:=by simp[iG]
theorem hH{i j:Nat}{ob x:Ob}{r:gQ}:iG i j ob ((j,x)::r)=iG i j ob r:=by simp[iG]
theorem hJ{i j q:Nat}{ob x:Ob}{r:gQ}(h:q≠i)(h':q≠j):iG i j ob ((q,x)::r)=(q,x.hG (ia i j))::iG i j ob r:=by simp[iG,h,h']
theorem ic{ρ:Nat->Option Nat}{u:Value}{e:Nat}{xs:List D}:AV.hG ρ (.nm u e xs)=.nm u e xs:=rfl
theorem Inv.II{C:Ctx}{β:gZ}{s:gQ}{w:World}(h:Inv C β s w){id t e n:Nat}{cs:List D}(ho:sat s id=.lO t e n cs):
 Inv C β (sset s id (.tok t e n)) w/\mu β s w β (sset s id (.tok t e n)) w:=by
 have hown:∀b o,own β (sset s id (.tok t e n)) b o->own β s b o:=fun b o ⟨i,hi⟩=>by
  rw[iE]at hi;by_cases hq:i=id
  ·subst hq;simp only[aj]at hi;obtain⟨cap,h1,_⟩:=hi;exact⟨i,by rw[ho];exact⟨cap,h1⟩⟩
  ·simp only[hq,ay]at hi;exact⟨i,hi⟩
 have hblk:∀i b,gy β (sset s id (.tok t e n)) i b->gy β s i b:=fun i b hi=>by
  unfold gy at hi⊢;rw[iE]at hi;by_cases hq:i=id
  ·subst hq;simp only[aj]at hi;rw[ho];exact hi
  ·simp only[hq,ay]at hi;exact hi
 have m:mu β s w β (sset s id (.tok t e n)) w:=
  ⟨aO _,rfl,fun _ _ _ h _=>h,fun _ _ _=>rfl,fun b o h=>.inl (hown b o h),fun i b hi=>.inl ⟨i,hblk i b hi⟩,fun _=>.refl _⟩
 refine⟨⟨h.size,h.io,h.keep,h.vr,fun b o hb=>h.sK b o (hown b o hb),fun i b hi=>h.uW i b (hblk i b hi),h.pl,h.low,fun i=>?_,fun i j b hi hj=>h.inj i j b (hblk i b hi) (hblk j b hj)⟩,m⟩;rw[iE];by_cases hq:i=id
 ·subst hq;simp only[aj];have hob:=h.obs i;rw[ho]at hob;obtain⟨u,k1,_,k3⟩:=hob;refine⟨u,k1,?_⟩;rcases k3 with k3|⟨b,cap,vs,g1,g2,g3,g4,g5,g6,_⟩
  ·exact .inl k3
  ·exact .inr ⟨b,cap,vs,g1,g2,g3,g4,g5,g6⟩
 ·simp only[hq,ay];exact(h.obs i).sJ m rfl (fun _ _=>rfl) rfl
theorem MO{C:Ctx}{β:gZ}{s:gQ}{w:World}(h:Inv C β s w){id t e:Nat}{ds:List D}(ho:sat s id=.lO t e ds.length (ds.flatMap gD))(hd:∀d∈ds,(gD d).length=e){v:Value}
 (hv:AV.ok β (C.gO β (sset s id (.tok t e ds.length))) w (.mL e id ds.length) v):AV.ok β (C.gO β (sset s id (.tok t e ds.length))) w (.own e id ds) v:=by
 simp only[AV.ok]at hv⊢;obtain⟨u,m,h1,h2,h3,_⟩:=hv;have hob:=h.obs id;rw[ho]at hob;obtain⟨u',h4,_,h6⟩:=hob;rw[h4]at h1;obtain⟨rfl,rfl⟩:=h1;have:=h3 rfl;subst this;refine⟨?_,_,ds.length,by rw[h4];exact⟨rfl,rfl⟩,aO _,fun _=>rfl⟩;simp only[D.ok];rcases h6 with⟨rfl,h7⟩|⟨b,cap,vs,rfl,k2,k3,k4,k5,k6,pre,rest,k7,k8⟩
 ·have:ds=[]:=bp.1 h7;subst this;exact⟨none,0,rfl,⟨aO _,gu⟩,trivial,.inl rfl⟩
 ·have hm:=(h.II ho).2;have k9:D.iK (C.gO β (sset s id (.tok t e ds.length))) w (ds.flatMap gD) pre:=D.kj (O:=C.gO β s) (w:=w) (w':=w) hm.stays _ _ k8;have hpl:pre.length=ds.length*e:=by
   rw[D.iS k8];have:∀l:List D,(∀d∈l,(gD d).length=e)->(l.flatMap gD).length=l.length*e:=fun l=>by
    induction l with
    |nil=>simp
    |cons x xs ih=>intro hx;rw[cn,au,ih (fun d hd=>hx d (by simp[hd])),hx x (by simp),aK,bk];omega
   exact this ds hd
  refine⟨_,cap,rfl,⟨k4,k5⟩,trivial,.inr ⟨b,0,rfl,zm hd k9 fun j u hj=>?_⟩⟩;have hlt:=(aN.1 hj).1;have hju:vs[j]?=some u:=by
   have:vs.toList[j]?=some u:=by rw[k7,aZ hlt];exact hj
   simpa using this
  refine⟨by simp[World.cell?,k2,hju],?_,k6 u (by rw[k7];exact cu _ (bV hj))⟩;have hbl:gy β s id b:=by unfold gy;rw[ho];exact⟨cap,h4⟩
  rintro(hO|⟨i,hO⟩)
  ·have:=h.low b (0+j) hO;rcases h.sK b (0+j) ⟨id,by rw[ho];exact⟨cap,h4⟩⟩with h8|h8
   ·exact this.2 h8
   ·omega
  ·rw[iE]at hO;by_cases hi:i=id
   ·subst hi;simp only[aj]at hO;obtain⟨_,_,hO⟩:=hO;omega
   ·simp only[hi,ay]at hO;exact hi (h.inj i id b (qv.block (id:=i) (o:=0+j) hO) hbl)
def TO(p q x y:AV):Prop:=∀(β:gZ)(O:Own)(w:World)(v:Value),(∀v,AV.ok β O w p v->AV.ok β O w q v)->AV.ok β O w x v->AV.ok β O w y v
def NF(p q:AV)(xs ys:List AV):Prop:=∀(β:gZ)(O:Own)(w:World)(vs:List Value),(∀v,AV.ok β O w p v->AV.ok β O w q v)->AV.iK β O w xs vs->AV.iK β O w ys vs
theorem TO.refl{p q x:AV}:TO p q x x:=fun _ _ _ _ _ h=>h
theorem TO.hit{p q:AV}:TO p q p q:=fun _ _ _ v hf h=>hf v h
theorem NF.nil{p q:AV}:NF p q [] []:=fun _ _ _ _ _ h=>h
theorem NF.cons{p q x y:AV}{xs ys:List AV}(h:TO p q x y)(hs:NF p q xs ys):NF p q (x::xs) (y::ys):=fun β O w vs hf hv=>by
 simp only[AV.iK]at hv⊢;obtain⟨v,r,rfl,h1,h2⟩:=hv;exact⟨v,r,rfl,h β O w v hf h1,hs β O w r hf h2⟩
theorem TO.oz{p q:AV}{xs ys:List AV}(h:NF p q xs ys):TO p q (.oz xs) (.oz ys):=fun β O w v hf hv=>by
 simp only[AV.ok]at hv⊢;obtain⟨vs,rfl,h1⟩:=hv;exact⟨vs,rfl,h β O w _ hf h1⟩
theorem TO.agg{p q:AV}{xs ys:List AV}(h:NF p q xs ys):TO p q (.agg xs) (.agg ys):=fun β O w v hf hv=>by
 simp only[AV.ok]at hv⊢;obtain⟨vs,rfl,h1,h2⟩:=hv;exact⟨vs,rfl,h1,h β O w _ hf h2⟩
theorem gx.II{α:Type}{f:α->D}{e t n k:Nat}[uK f e]{x:AV}{s:gQ}{ds:List D}(id:Nat)(f':α->D)(hf:f'=f)(xs:List α)(y:AV)(ho:sat s id=.lO t e n ds)(hn:n=xs.length)(hs:ds=jT f xs)
 (hxy:TO (.mL e id n) (.own e id (xs.map f')) x y):gx k x s y (sset s id (.tok t e n)):=fun C β w v _ hi hx=>by
 subst hf;subst hn;subst hs;have ho':sat s id=.lO t e (xs.map f').length ((xs.map f').flatMap gD):=by rw[ho,aS];rfl
 have hd:∀d∈xs.map f',(gD d).length=e:=fun d hd=>by obtain⟨x,_,rfl⟩:=bF.1 hd;exact uK.len x
 obtain⟨h1,m⟩:=hi.II ho;refine⟨β,h1,hxy β _ w v (fun v hv=>?_) (m.ok hx)⟩;have:=MO hi ho' hd (v:=v);rw[aS]at this;exact this hv
theorem PC.told:∀ds:List D,PC (ds.map yV) ds
 |[]=>trivial
 |d::ds=>by cases d<;>exact⟨rfl,PC.told ds⟩
theorem PC.WA:∀ds:List D,PC (ds.map .d) ds
 |[]=>trivial
 |d::ds=>⟨rfl,PC.WA ds⟩
theorem PC.set:∀{cs:List AV}{ds:List D}(j:Nat){x:AV}{d:D},PC cs ds->(x=.d d\/x=.dp d)->PC (cs.set j x) (ds.set j d)
 |[],[],j,_,_,_,_=>trivial
 |[],_::_,_,_,_,h,_=>h.elim
 |c::cs,[],_,_,_,h,_=>by cases c<;>exact h.elim
 |c::cs,d::ds,0,x,d',h,hx=>by
  have ht:PC cs ds:=by cases c<;>first|exact h.2|exact h.elim
  rcases hx with rfl|rfl<;>exact⟨rfl,ht⟩
 |c::cs,d::ds,j+1,x,d',h,hx=>by
  cases c<;>first|exact⟨h.1,PC.set j h.2 hx⟩|exact h.elim
theorem PC.append:∀{cs cs':List AV}{ds ds':List D},PC cs ds->PC cs' ds'->PC (cs++cs') (ds++ds')
 |[],cs',[],ds',_,h=>h
 |[],_,_::_,_,h,_=>h.elim
 |c::cs,cs',[],_,h,_=>by cases c<;>exact h.elim
 |c::cs,cs',d::ds,ds',h,h'=>by cases c<;>first|exact⟨h.1,PC.append h.2 h'⟩|exact h.elim
theorem C4{α:Type}{cs:List α}{M M':Nat}{x:α}(h:M<cs.length)(hM:M'=M+1):cs.take M++[x]++cs.drop M'=cs.set M x:=by
 subst hM;rw[cL,aE h];simp
theorem HM{α:Type}{f:α->D}{e:Nat}[uK f e]{d:D}{y:α}{k:Nat}(hk:k<e):∀{xs:List α}{i:Nat}(x:α),xs[i]?=some x->(gD (f x)).set k d=gD (f y)->
 (jT f xs).set (i*e+k) d=jT f (xs.set i y)
 |[],_,_,h,_=>by simp at h
 |x0::xs,0,x,h,hy=>by
  simp only[List.getElem?_cons_zero,aM]at h;subst h;have hl:=uK.len (f:=f) (e:=e) x0;simp only[jT,aT,cn,ak,dM,cy];rw[List.set_append_left _ _ gu,hy]
 |x0::xs,i+1,x,h,hy=>by
  have hl:=uK.len (f:=f) (e:=e) x0;have ih:=HM (f:=f) (d:=d) (y:=y) hk (xs:=xs) (i:=i) x (by simpa using h) hy;simp only[jT,aT,cn,aq]at ih⊢;rw[List.set_append_right _ _ (by rw[hl,bk];omega),<-ih];congr 2;rw[hl,bk];omega
theorem gx.Ac{α:Type}{f:α->D}{e n k:Nat}[uK f e]{x:AV}{s:gQ}{cs:List AV}(id:Nat)(f':α->D)(hf:f'=f)(xs:List α)(hid:k<=id)(ho:sat s id=.oU e n cs)(hn:n=xs.length)(hp:PC cs (jT f xs)):
 gx k x s (x.nh id (xs.map f')) (se id (xs.map f') s):=by
 subst hf;subst hn;exact gx.nh id hid (.inr (.inr (.inr ⟨e,cs,by rw[ho,aS],hp,fun d hd=>by obtain⟨x,_,rfl⟩:=bF.1 hd;exact uK.len x⟩)))
theorem PC.of{α:Type}{f:α->D}(xs:List α):PC (jJ (xs.map f)) (jT f xs):=PC.told _
theorem PC.put{α:Type}{f:α->D}{e k:Nat}[uK f e]{xs:List α}{i M:Nat}{cs:List AV}{a:AV}{d:D}{x y:α}(hp:PC cs (jT f xs))(hk:k<e)(hM:M=i*e+k)(hx:xs[i]?=some x)
 (hy:(gD (f x)).set k d=gD (f y)) (ha:a=.d d\/a=.dp d):PC (cs.set M a) (jT f (xs.set i y)):=by
 subst hM;rw[<-HM hk x hx hy];exact hp.set _ ha
theorem wo{α:Type}{f:α->D}{e:Nat}[uK f e](xs:List α):(jJ (xs.map f)).length=xs.length*e:=by
 have:=zw (f:=f) (e:=e) (fun x=>uK.len x) (xs:=xs);simpa[jJ,jT]using this
theorem PC.nh{id:Nat}{ys:List D}:∀{cs:List AV}{ds:List D},PC cs ds->PC (AV.pU id ys cs) ds
 |[],[],_=>trivial
 |[],_::_,h=>h.elim
 |c::cs,[],h=>by cases c<;>exact h.elim
 |c::cs,d::ds,h=>by
  cases c<;>first|exact⟨h.1,PC.nh h.2⟩|exact h.elim
theorem gx.X0{k:Nat}{x:AV}{s:gQ}(id:Nat){t:Nat}{cs:List AV}(cs':List AV)(hs:sat s id=.obj t cs)(h:jr cs cs'):gx k x s x (sset s id (.obj t cs')):=fun C β w v hC hi hx=>by
 have hq:∀i,yp (sat s i) (sat (sset s id (.obj t cs')) i):=fun i=>by
  rw[iE];by_cases hi:i=id
  ·subst hi;rw[aE rfl,hs];exact⟨rfl,h⟩
  ·rw[aJ hi];exact yp.refl _
 obtain⟨h1,h2⟩:=hi.told hq;exact⟨β,h1,by rw[h2];exact hx⟩
theorem OO(id:Nat)(ds:List D)(xs:List AV)(j:Nat)(x:AV):AV.pU id ds (xs.set j x)=(AV.pU id ds xs).set j (x.nh id ds):=by simp only[zN,eT]
theorem PC.X2{α:Type}{f:α->D}{e k id:Nat}{ys:List D}[uK f e]{xs:List α}{i M:Nat}{cs:List AV}{a:AV}{d:D}{x y:α}(hp:PC cs (jT f xs))(hk:k<e)(hM:M=i*e+k)(hx:xs[i]?=some x)
 (hy:(gD (f x)).set k d=gD (f y)) (ha:a.nh id ys=.d d):PC (AV.pU id ys (cs.set M a)) (jT f (xs.set i y)):=by
 rw[OO];exact PC.put hp.nh hk hM hx hy (.inl ha)
theorem yI{ρ:Nat->Option Nat}{ds:List D}:AV.gY ρ (ds.map .d)=ds.map .d:=by
 rw[lW,eB];rfl
theorem OV{P:Program}{ρ:Go.Shelf.Ren}(L:Go.Proofs.Lays8.n4 P ρ){i0:TypeInfo}{z:Value}(hi0:P.info? (ρ.t 25)=some i0)(hz0:i0.zero=some z)(hs0:0<i0.size)(hb0:0<i0.bytes)
 (hz1:z.cells.size=i0.size) (hz2:∀v∈z.cells.toList,one v=true) {n:Int} (h0:0<=n) (hb:n*i0.bytes<=140737488355328):
 hY P (ρ.f 4) [.d (.sl 0 (some true) []),.d (iD n)] [] 0 fun x s'=>x=.own i0.size 0 []/\s'=[(0,.tok (ρ.t 25) i0.size 0)]:=fun C vs hs hk hinv hargs=>by
 obtain⟨m,rfl⟩:=Int.eq_ofNat_of_zero_le h0;have hst:St C C.β [] C.s {tmps:=#[],defers:=[]} C.w:=⟨.nil,hinv,rfl,fun i x hx=>by simp at hx⟩;have hvs:vs=#[.slice none 0 0,.int .i64 m]:=by
  simp only[AV.iK,AV.ok]at hargs;obtain⟨v,r,h1,h2,v2,r2,h3,h4,h5⟩:=hargs;have h2:=B7 h2;have h4:=ow (β:=C.β) (O:=C.gO C.β C.s) (w:=C.w) (by simp only[AV.ok];exact h4);subst h2 h4 h5 h3;exact cO (by simpa[uE]using h1)
 subst hvs;have hd:sat C.s 0=.dead:=by rw[hs];rfl
 rcases ff m with rfl|hm
 ·refine(Go.Proofs.Any8.slices_Grow_room L none 0 0 0 C.w (aO _) gu gu gu).mono ?_;rintro e w' ⟨rfl,rfl⟩;obtain⟨h1,_⟩:=hst.Ee (id:=0) (t:=ρ.t 25) (e:=i0.size) hd;rw[hs]at h1;exact⟨_,.own i0.size 0 [],_,_,rfl,h1.inv,C2 (by simp[gG]),rfl,rfl⟩
 ·have hmb:m*i0.bytes<=140737488355328:=by
   have:((m*i0.bytes:Nat):Int)<=140737488355328:=by simpa using hb
   omega
  have hm47:m<=140737488355328:=bP (cj _ hb0) hmb;refine(Go.Proofs.Any8.slices_Grow_grow L i0 z hi0 hz0 hs0 none 0 0 m [] C.w (aO _) gu (by simpa using hmb) gu (by simp) (by simp) (by simp)).mono ?_;rintro e w' ⟨rfl,rfl⟩;have hcap1:=eK C.w (0+m) 0 (ρ.t 25);have hcap2:=dB C.w (0+m) 0 (ρ.t 25) (by unfold Go.maxLen;omega);obtain⟨β',h1,h2⟩:=yH hst.drew (id:=0) (t:=ρ.t 25) (e:=i0.size) (n:=0) (cap:=grownCap C.w (0+m) 0 (ρ.t 25))
   (c:=([]:List Value).toArray++Builtin.zeroCells z.cells (0+m-0)++Builtin.zeroCells z.cells (grownCap C.w (0+m) 0 (ρ.t 25)-(0+m))) (xs:=[])
   (by have:=hst.inv.obs 0;rw[hd]at this;rw[show C.β 0=.no from this];trivial)
   (by
    rw[cH,cH,d_,d_,hz1];simp only[cz,bB,cy,Nat.sub_zero];rw[<-bk];congr 1;simp only[cy]at hcap1;omega)
   (Nat.zero_le _) (by unfold Go.maxLen at hcap2;omega)
   (fun v hv=>by
    simp only[Array.toList_append,aG]at hv;rcases hv with(hv|hv)|hv
    ·simp at hv
    ·exact pS hz2 _ v hv
    ·exact pS hz2 _ v hv)
   rfl (fun _ _ _ _=>by simp[D.row])
  rw[hs]at h1 h2;exact⟨_,.own i0.size 0 [],β',_,rfl,h1.inv,h2,rfl,rfl⟩
end oe
