/- A part of the proof about FnAcNormal and about FnAcSteps (LaShal, LaLend, LaDeep, LaSplit, LaThaw, LaPak, Grow). -/
import Derived.Test.YthdnkoejpdcnpaaGreatNab
import Derived.KernelRfl
import Derived.Shelf.Spec.SlicesGrow
set_option linter.all false
noncomputable section
namespace kI
open Go
def DL(x y:D):Prop:=∀O w v,D.ok O w x v->D.ok O w y v
def T0:List D->List D->Prop
 |[],[]=>True
 |x::xs,y::ys=>DL x y/\T0 xs ys
 |_,_=>False
theorem DL.forget{e:Nat}{nl:Option Bool}{xs:List D}:DL (.sl e nl xs) (.sl e none xs):=fun _ _ _ h=>by
 simp only[D.ok]at h⊢;obtain⟨a,cap,h1,h2,_,h4⟩:=h;exact⟨a,cap,h1,h2,trivial,h4⟩
theorem DL.nil{e e':Nat}{nl:Option Bool}:DL (.sl e nl []) (.sl e' none []):=fun _ _ _ h=>by
 simp only[D.ok]at h⊢;obtain⟨a,cap,h1,h2,_,h4⟩:=h;exact⟨a,cap,h1,h2,trivial,by simp⟩
theorem T0.hM{O:Own}{w:World}:∀{xs ys:List D}{vs:List Value},T0 xs ys->D.hM O w xs vs->D.hM O w ys vs
 |[],[],_,_,h=>h
 |_::_,_::_,_,hl,h=>by
  simp only[D.hM]at h⊢;obtain⟨v,r,h1,h2,h3,h4⟩:=h;exact⟨v,r,h1,h2,hl.1 _ _ _ h3,T0.hM hl.2 h4⟩
 |[],_::_,_,hl,_=>hl.elim
 |_::_,[],_,hl,_=>hl.elim
theorem DL.agg{xs ys:List D}(h:T0 xs ys):DL (.agg xs) (.agg ys):=fun _ _ _ hv=>by
 simp only[D.ok]at hv⊢;obtain⟨vs,h1,h2⟩:=hv;exact⟨vs,h1,h.hM h2⟩
theorem AV.yc{x y:D}(h:DL x y):AV.le (.d x) (.d y):=fun _ _ _ _ hv=>by simp only[AV.ok]at hv⊢;exact h _ _ _ hv
theorem AV.QY{e id:Nat}{xs:List D}{y:D}(h:DL (.sl e none xs) y):AV.le (.own e id xs) (.d y):=fun _ _ _ _ hv=>by simp only[AV.ok]at hv⊢;exact h _ _ _ hv.1
theorem AV.Ap{xs ys:List AV}(h:ia xs ys):AV.le (.agg xs) (.agg ys):=fun _ _ _ _ hv=>by
 simp only[AV.ok]at hv⊢;obtain⟨vs,h1,h2,h3⟩:=hv;exact⟨vs,h1,h2,h.hM h3⟩
theorem Bf{β:gU}{O:Own}{w:World}:∀{ys:List D}{vs:List Value},(∀u∈vs,one u=true)->AV.hM β O w (ys.map .d) vs->D.hM O w ys vs
 |[],_,_,h=>by simpa[AV.hM,D.hM]using h
 |y::ys,vs,h1,h=>by
  simp only[aX,AV.hM,D.hM]at h⊢;obtain⟨v,r,rfl,h2,h3⟩:=h;exact⟨v,r,rfl,h1 v (by simp),by simpa[AV.ok]using h2,Bf (fun u hu=>h1 u (by simp[hu])) h3⟩
theorem AV.wP{xs:List AV}{ys:List D}(h:ia xs (ys.map .d)):AV.le (.agg xs) (.d (.agg ys)):=fun _ _ _ _ hv=>by
 simp only[AV.ok,D.ok]at hv⊢;obtain⟨vs,h1,h2,h3⟩:=hv;exact⟨vs,h1,Bf h2 (h.hM h3)⟩
theorem AV.yY{xs ys:List AV}(h:ia xs ys):AV.le (.nk xs) (.nk ys):=fun _ _ _ _ hv=>by
 simp only[AV.ok]at hv⊢;obtain⟨vs,h1,h3⟩:=hv;exact⟨vs,h1,h.hM h3⟩
theorem I3{e e':Nat}{nl:Option Bool}:AV.le (.d (.sl e nl [])) (.d (.sl e' none []))<->True:=⟨fun _=>trivial,fun _=>AV.yc DL.nil⟩
theorem H6{e e':Nat}{nl:Option Bool}:DL (.sl e nl []) (.sl e' none [])<->True:=⟨fun _=>trivial,fun _=>DL.nil⟩
theorem Lx{xs:List AV}{ys:List D}(h:ia xs (ys.map .d)):AV.le (.agg xs) (.d (.agg ys))<->True:=⟨fun _=>trivial,fun _=>AV.wP h⟩
theorem NT{xs ys:List AV}(h:ia xs ys):AV.le (.nk xs) (.nk ys)<->True:=⟨fun _=>trivial,fun _=>AV.yY h⟩
def YQ(x y:AV):Prop:=x=y\/((∀d,x≠ .dp d)/\(∀d,y≠ .dp d)/\AV.le x y)\/∃e0 e,x=.d (.sl e0 (some true) [])/\y=.dp (.sl e none [])
def AH:List AV->List AV->Prop
 |[],[]=>True
 |x::xs,y::ys=>YQ x y/\AH xs ys
 |_,_=>False
theorem AH.refl:∀xs:List AV,AH xs xs
 |[]=>trivial
 |x::xs=>⟨.inl rfl,AH.refl xs⟩
theorem AH.length:∀{xs ys:List AV},AH xs ys->xs.length=ys.length
 |[],[]=>fun _=>rfl
 |x::xs,y::ys=>fun h=>by simp[AH.length h.2]
 |[],_::_=>fun h=>h.elim
 |_::_,[]=>fun h=>h.elim
theorem YQ.nx{β:gU}{O:Own}{w:World}{x y:AV}{v:Value}{bs:List Nat}(h:YQ x y)(hx:NX β O w x v bs):NX β O w y v bs:=by
 rcases h with rfl|⟨h1,h2,h3⟩|⟨e0,e,rfl,rfl⟩
 ·exact hx
 ·exact hx.imp (x':=y) (fun _ _=>rfl) (.inr ⟨h1,h2,h3 _ _ _ _⟩)
 ·obtain⟨h1,h2⟩:=hx;have h1:AV.ok β O w (.d (.sl e0 (some true) [])) v:=h1;simp only[AV.ok,D.ok]at h1;obtain⟨a,cap,h3,h4,⟨rfl,rfl⟩,_⟩:=h1;show NV w (.sl e none []) v bs;simp only[NV];exact⟨none,0,h3,h4,trivial,.inl ⟨rfl,trivial,h2⟩⟩
theorem AH.Z1{β:gU}{O:Own}{w:World}:∀{xs ys:List AV}{vs:List Value}{bs:List Nat},AH xs ys->vp β O w xs vs bs->vp β O w ys vs bs
 |[],[]=>fun _ h=>h
 |x::xs,y::ys=>fun hl h=>by
  simp only[vp]at h⊢;obtain⟨v,r,b1,b2,h1,h2,h3,h4⟩:=h;exact⟨v,r,b1,b2,h1,h2,hl.1.nx h3,AH.Z1 hl.2 h4⟩
 |[],_::_=>fun h=>h.elim
 |_::_,[]=>fun h=>h.elim
def Pv:List (Lit×D)->List (Lit×D)->Prop
 |[],[]=>True
 |(k,x)::r,(k',y)::r'=>k=k'/\AV.le (.d x) (.d y)/\Pv r r'
 |_,_=>False
theorem Pv.refl:∀es:List (Lit×D),Pv es es
 |[]=>trivial
 |(_,_)::r=>⟨rfl,fun _ _ _ _ h=>h,Pv.refl r⟩
theorem Pv.get{kl:Lit}:∀{es es':List (Lit×D)},Pv es es'->(yB es kl=none/\yB es' kl=none)\/∃x y,yB es kl=some x/\yB es' kl=some y/\AV.le (.d x) (.d y)
 |[],[],_=>.inl ⟨rfl,rfl⟩
 |(k,x)::r,(k',y)::r',h=>by
  obtain⟨rfl,h1,h2⟩:=h;unfold yB;by_cases hk:k=kl
  ·simp only[hk,aH];exact .inr ⟨x,y,rfl,rfl,h1⟩
  ·simp only[hk,aG];exact h2.get
 |[],_::_,h=>h.elim
 |_::_,[],h=>h.elim
theorem Pv.ok{O:Own}{w:World}{P:Program}{k b:Nat}{es es':List (Lit×D)}(h:Pv es es')(hm:AG O w P k es b):AG O w P k es' b:=by
 obtain⟨E,h1,h2⟩:=hm;refine⟨E,h1,fun kl=>?_⟩;have h3:=h2 kl;rcases h.get (kl:=kl)with⟨e1,e2⟩|⟨x,y,e1,e2,e3⟩
 ·rw[e1]at h3;rw[e2];exact h3
 ·rw[e1]at h3;rw[e2];obtain⟨v,k1,k2,k3⟩:=h3;exact⟨v,k1,k2,by have:=e3 (fun _=>.no) O w v (by simpa only[AV.ok]using k3);simpa only[AV.ok]using this⟩
def xT:Ob->Ob->Prop
 |.dead,.dead=>True
 |.obj t cs,.obj t' cs'=>t=t'/\ia cs cs'
 |.tok t e n,.tok t' e' n'=>t=t'/\e=e'/\n=n'
 |.iM t e n cs,.iM t' e' n' cs'=>t=t'/\e=e'/\n=n'/\ia (cs.map .d) (cs'.map .d)
 |.pI t e n cs,.pI t' e' n' cs'=>t=t'/\e=e'/\n=n'/\AH cs cs'
 |.vf e n cs,.vf e' n' cs'=>e=e'/\n=n'/\AH cs cs'
 |.mp P k es,.mp P' k' es'=>P=P'/\k=k'/\Pv es es'
 |_,_=>False
def jN:gL->gL->Prop
 |[],[]=>True
 |(i,x)::r,(j,y)::r'=>i=j/\xT x y/\jN r r'
 |_,_=>False
theorem jN.sat:∀{s s':gL},jN s s'->∀id,xT (kI.sat s id) (kI.sat s' id)
 |[],[],_,_=>trivial
 |(i,x)::r,(j,y)::r',h,id=>by
  obtain⟨rfl,h1,h2⟩:=h;simp only[kI.sat];split
  ·exact h1
  ·exact h2.sat id
 |[],_::_,h,_=>h.elim
 |_::_,[],h,_=>h.elim
theorem ia.QC{O:Own}{w:World}:∀{xs ys:List D}{vs:List Value},ia (xs.map .d) (ys.map .d)->D.hM O w xs vs->D.hM O w ys vs
 |[],[],_,_,h=>h
 |x::xs,y::ys,_,hl,h=>by
  simp only[D.hM]at h⊢;obtain⟨v,r,h1,h0,h2,h3⟩:=h;refine⟨v,r,h1,h0,?_,ia.QC hl.2 h3⟩;have:=hl.1 (fun _=>.no) O w v (by simpa only[AV.ok]using h2);simpa only[AV.ok]using this
 |[],_::_,_,hl,_=>hl.elim
 |_::_,[],_,hl,_=>hl.elim
theorem ia.length':∀{xs ys:List D},ia (xs.map .d) (ys.map .d)->xs.length=ys.length
 |[],[],_=>rfl
 |x::xs,y::ys,hl=>by simp[ia.length' hl.2]
 |[],_::_,hl=>hl.elim
 |_::_,[],hl=>hl.elim
theorem Inv.told{C:Ctx}{β:gU}{s s':gL}{w:World}(h:Inv C β s w)(hs:∀id,xT (sat s id) (sat s' id)):Inv C β s' w/\C.gP β s'=C.gP β s:=by
 have hown:∀b x,own β s' b x<->own β s b x:=fun b x=>by
  unfold own;refine exists_congr fun id=>?_
  have:=hs id;revert this;cases sat s id<;>cases sat s' id<;>intro h1<;>first|exact h1.elim|exact cM|skip
  ·obtain⟨_,rfl,rfl⟩:=h1;exact cM
  ·obtain⟨_,rfl,rfl,_⟩:=h1;exact cM
  ·obtain⟨_,rfl,rfl,_⟩:=h1;exact cM
  ·obtain⟨rfl,rfl,_⟩:=h1;exact cM
 have hblk:∀id b,gF β s' id b<->gF β s id b:=fun id b=>by
  unfold gF;have:=hs id;revert this;cases sat s id<;>cases sat s' id<;>intro h1<;>first|exact h1.elim|exact cM|skip
  ·obtain⟨_,rfl,rfl⟩:=h1;exact cM
  ·obtain⟨_,rfl,rfl,_⟩:=h1;exact cM
  ·obtain⟨_,rfl,rfl,_⟩:=h1;exact cM
  ·obtain⟨rfl,rfl,_⟩:=h1;exact cM
 have hf:C.gP β s'=C.gP β s:=by funext b o;exact propext (or_congr cM (hown b o))
 refine⟨⟨h.size,h.io,h.keep,h.uy,fun b o ho=>h.rH b o ((hown b o).1 ho),fun id b hb=>h.vt id b ((hblk id b).1 hb),h.pl,h.low,fun id=>?_,
  fun i j b hi hj=>h.inj i j b ((hblk i b).1 hi) ((hblk j b).1 hj)⟩,hf⟩
 rw[hf];have h1:=h.obs id;have h2:=hs id;revert h1 h2;cases sat s id<;>cases sat s' id<;>intro h1 h2<;>first|exact h2.elim|exact h1|skip
 ·obtain⟨rfl,h2⟩:=h2;obtain⟨b,vs,h3,h4,h5,h6⟩:=h1;exact⟨b,vs,h3,h4,h5,h6.imp fun _ h=>h2.hM h⟩
 ·obtain⟨rfl,rfl,rfl⟩:=h2;exact h1
 ·obtain⟨rfl,rfl,rfl,h2⟩:=h2;obtain⟨u,h3,h4,h5⟩:=h1;refine⟨u,h3,h2.length'▸h4,?_⟩;rcases h5 with h5|⟨b,cap,vs,k1,k2,k3,k4,k5,k6,pre,rest,k7,k8⟩
  ·exact .inl h5
  ·exact .inr ⟨b,cap,vs,k1,k2,k3,k4,k5,k6,pre,rest,k7,h2.QC k8⟩
 ·obtain⟨rfl,rfl,rfl,h2⟩:=h2;obtain⟨u,bs,h3,h4,h5,h6⟩:=h1;refine⟨u,bs,h3,h4,h2.length▸h5,?_⟩;rcases h6 with h6|⟨b,cap,vs,k1,k2,k3,k4,k5,k6,k7,k8⟩
  ·exact .inl h6
  ·exact .inr ⟨b,cap,vs,k1,k2,k3,k4,k5,k6,k7,h2.Z1 k8⟩
 ·obtain⟨rfl,rfl,h2⟩:=h2;obtain⟨u,bs,h3,h4,h5,h6⟩:=h1;refine⟨u,bs,h3,h4,h2.length▸h5,?_⟩;rcases h6 with h6|⟨b,cap,vs,t,k1,k2,k3,k4,k5,k6,k9,k7,k8⟩
  ·exact .inl h6
  ·exact .inr ⟨b,cap,vs,t,k1,k2,k3,k4,k5,k6,k9,k7,h2.Z1 k8⟩
 ·obtain⟨rfl,rfl,h2⟩:=h2;obtain⟨b,h3,h4⟩:=h1;exact⟨b,h3,h2.ok h4⟩
theorem gT.Xm{k:Nat}{env env':List AV}{s s':gL}(h:ia env env')(hs:jN s s'):gT k env s env' s':=fun C β a w hC hst=>by
 obtain⟨h1,hf⟩:=hst.inv.told hs.sat;obtain⟨h3,h4⟩:=h.get;exact⟨β,hst.defers,h1,by rw[hst.len,h3],fun i y hy=>by rw[hf];exact let⟨x,hx,hle⟩:=h4 i y hy;hle _ _ _ _ (hst.env i x hx)⟩
def wm(id:Nat):gL->gL
 |[]=>[]
 |(j,x)::r=>if j=id then wm id r else(j,x.kill id)::wm id r
theorem Bm(id j:Nat):∀s:gL,sat (wm id s) j=sat (iL id s) j
 |[]=>rfl
 |(i,x)::r=>by
  simp only[wm,iL];by_cases h:i=id
  ·subst h;simp only[aH,sat,Bm i j r];split
   ·rename_i h2;subst h2;rw[tg];simp
   ·rfl
  ·simp only[h,aG,sat,Bm id j r]
theorem gT.drop{k:Nat}{env:List AV}{s:gL}(id:Nat)(hid:k<=id):gT k env s (AV.iI (gV id) env) (wm id s):=
 (gT.kill id hid).trans (gT.VB fun j=>(Bm id j s).symm)
theorem pG.mono{P:Program}{k:Nat}{mc:gH}{Q Q':Post}{env:List AV}{s:gL}(h:pG P k mc Q env s)(hq:∀e env s,Q e env s->Q' e env s):pG P k mc Q' env s:=
 fun C hC hf c hc β a w hst=>fq (h C hC hf c hc β a w hst) fun e _ _ ⟨C',hx,β',env',s',h1,h2⟩=>⟨C',hx,β',env',s',h1,hq e env' s' h2⟩
def sO(P:Program)(k:Nat):gH->Post->List AV->gL->Prop
 |.skip,Q,env,s=>Q .normal env s
 |.gD ms,Q,env,s=>uf P k (Q .normal) ms env s
 |.draw ms af,Q,env,s=>P.follows .mixedOrders=true/\uc P k (xO ms af Q) ms [] env s
 |.seq a b,Q,env,s=>sO P k a (Cy (fun env s=>sO P k b Q env s) Q) env s
 |.cond o a b,Q,env,s=>match ev env o with
  |.d (.lit (.bool t))=>if t=true then sO P k a Q env s else sO P k b Q env s
  |_=>False
 |.block id a,Q,env,s=>sO P k a (Da id Q) env s
 |.loop x,Q,env,s=>pG P k (.loop x) Q env s
 |.exit id,Q,env,s=>Q (.exit id) env s
 |.ret,Q,env,s=>Q .ret env s
 |.dead,_,_,_=>False
 |.ghost x,Q,env,s=>∃env' s',gT k env s env' s'/\pG P k x Q env' s'
 |.U1 g ps a b,Q,env,s=>pG P k (.U1 g ps a b) Q env s
 |.scope a,Q,env,s=>sO P k a (TE Q) env s
 |.label,Q,env,s=>Q .normal env s
theorem gC{P:Program}{k:Nat}:∀{mc:gH}{Q:Post}{env:List AV}{s:gL},sO P k mc Q env s->pG P k mc Q env s
 |.skip,_,_,_,h=>UP h
 |.gD _,_,_,_,h=>ZW h
 |.draw _ _,_,_,_,h=>Xq h.1 h.2
 |.seq a b,Q,env,s,h=>Xt (pG.mono (gC (mc:=a) h) fun e env s hq=>by
  cases e with
  |normal=>exact gC (mc:=b) hq
  |_=>exact hq)
 |.cond o a b,Q,env,s,h=>by
  simp only[sO]at h;split at h
  ·rename_i t ht;refine UL ht ?_;unfold Br;split at h
   ·rename_i hb;rw[ah hb];exact gC (mc:=a) h
   ·rename_i hb;rw[az hb];exact gC (mc:=b) h
  ·exact h.elim
 |.block id a,_,_,_,h=>Q3 (gC (mc:=a) h)
 |.loop x,_,_,_,h=>h
 |.exit id,_,_,_,h=>UN h
 |.ret,_,_,_,h=>Xs h
 |.dead,_,_,_,h=>h.elim
 |.ghost x,_,_,_,h=>let⟨_,_,hw,h⟩:=h;Q4 hw h
 |.U1 _ _ _ _,_,_,_,h=>h
 |.scope x,_,_,_,h=>Q7 (gC (mc:=x) h)
 |.label,_,_,_,h=>Q5 h
def iV(P:Program)(k:Nat)(x:gH)(Q:Post)(env:List AV)(s:gL):Prop:=∃env' s',gT k env s env' s'/\pG P k x Q env' s'
theorem iV.of{P:Program}{k:Nat}{x:gH}{Q:Post}{env env':List AV}{s s':gL}(hw:gT k env s env' s')(h:sO P k x Q env' s'):iV P k x Q env s:=⟨_,_,hw,gC h⟩
def xm(P:Program)(k:Nat)(b:Bool)(x y:gH)(Q:Post)(env:List AV)(s:gL):Prop:=if b=true then sO P k x Q env s else sO P k y Q env s
def JA(P:Program)(k:Nat)(x y:gH)(Q:Post)(env:List AV)(s:gL):AV->Prop
 |.d (.lit (.bool b))=>xm P k b x y Q env s
 |_=>False
section
variable{P:Program}{k:Nat}{Q:Post}{env env':List AV}{s s':gL}{x y mc:gH}{b:Bool}
theorem Pp:sO P k .skip Q env s=Q .normal env s:=(rfl)
theorem RK{ms:List iH}:sO P k (.gD ms) Q env s=uf P k (Q .normal) ms env s:=(rfl)
theorem Pm{ms:List iH}{af:List gv}:sO P k (.draw ms af) Q env s=(P.follows .mixedOrders=true/\uc P k (xO ms af Q) ms [] env s):=(rfl)
theorem RN:sO P k (.seq x y) Q env s=sO P k x (Cy (sO P k y Q) Q) env s:=(rfl)
theorem L6{id:Nat}:sO P k (.block id x) Q env s=sO P k x (Da id Q) env s:=(rfl)
theorem Po:sO P k (.loop x) Q env s=pG P k (.loop x) Q env s:=(rfl)
theorem L7:sO P k (.ghost x) Q env s=iV P k x Q env s:=(rfl)
theorem Pn{id:Nat}:sO P k (.exit id) Q env s=Q (.exit id) env s:=(rfl)
theorem RL:sO P k .ret Q env s=Q .ret env s:=(rfl)
theorem Pk{o:Operand}:sO P k (.cond o x y) Q env s=JA P k x y Q env s (ev env o):=by
 simp only[sO];split
 ·rename_i b h;rw[h];rfl
 ·rename_i h;unfold JA;split
  ·rename_i b h2;exact absurd h2 (h b)
  ·rfl
theorem VG:xm P k true x y Q env s=sO P k x Q env s:=by simp[xm]
theorem VF:xm P k false x y Q env s=sO P k y Q env s:=by simp[xm]
end
section
variable{P:Program}{k k0:Nat}{Q:Post}{K:List AV->gL->Prop}{env env':List AV}{s s':gL}{x y mc:gH}{b b' want:Bool}{m:tB}{d:Option Nat}{ms:List iH}
 {F:List (List Nat×List Nat)->List AV->gL->Prop} {acc acc':List (List Nat×List Nat)} {foot foot':List Nat}
@[congr] theorem VD (he:env=env')(hs:s=s'):sO P k mc Q env s=sO P k mc Q env' s':=by rw[he,hs]
@[congr] theorem Vw (he:env=env')(hs:s=s'):pG P k mc Q env s=pG P k mc Q env' s':=by rw[he,hs]
@[congr] theorem PY (he:env=env')(hs:s=s'):iV P k x Q env s=iV P k x Q env' s':=by rw[he,hs]
@[congr] theorem Vt (hb:b=b'):xm P k b x y Q env s=xm P k b' x y Q env s:=by rw[hb]
@[congr] theorem Vq {R:List AV->gL->Prop}{o o':Out}(h:o=o'):lu P k0 R d o=lu P k0 R d o':=by rw[h]
@[congr] theorem Vu (hb:b=b'):wz P k0 K b want m d ms env s=wz P k0 K b' want m d ms env s:=by rw[hb]
@[congr] theorem R8 {R:List AV->gL->Prop}{f:Nat}{args args':List AV}(ha:args=args')(he:env=env')(hs:s=s'):
 kr P k0 f args env s d R=kr P k0 f args' env' s' d R:=by rw[ha,he,hs]
@[congr] theorem TQ {o o':rz}(hf:foot=foot')(h:o=o'):kf P k0 F ms acc foot d env s o=kf P k0 F ms acc foot' d env s o':=by rw[h,hf]
@[congr] theorem Vv (hb:b=b'):wu P k0 F b want m d ms acc env s=wu P k0 F b' want m d ms acc env s:=by rw[hb]
@[congr] theorem R6 {f:Nat}{args args':List AV}(ha:args=args'):lq P k0 F ms acc foot d env s f args=lq P k0 F ms acc foot d env s f args':=by rw[ha]
@[congr] theorem VA {af:List gv}(ha:acc=acc')(he:env=env')(hs:s=s'):xO ms af Q acc env s=xO ms af Q acc' env' s':=by rw[ha,he,hs]
end
theorem Nf{P:Program}{k0 f:Nat}{args env:List AV}{s:gL}{d:Option Nat}{R:List AV->gL->Prop}{dz:List D}{r:D}(hc:iC P f dz r)
 (ha:ia (args.map fun x=>x.kY (oI [])) (dz.map .d)) (hk:R (iq d env (.d r)) s):kr P k0 f args env s d R:=zA (GF ha hc hk)
theorem K5{P:Program}{k0 f:Nat}{args env:List AV}{s:gL}{d:Option Nat}{R:List AV->gL->Prop}{dz:List D}{rs:List D}(hc:pn P f dz rs)
 (ha:ia (args.map fun x=>x.kY (oI [])) (dz.map .d)) (hk:R (iq d env (.nk (rs.map .d))) s):kr P k0 f args env s d R:=zA (EE ha hc hk)
theorem Nd{P:Program}{k0:Nat}{F:List (List Nat×List Nat)->List AV->gL->Prop}{ms:List iH}{acc:List (List Nat×List Nat)}{foot:List Nat}{d:Option Nat}{env:List AV}{s:gL}
 {f:Nat} {args:List AV} {dz:List D} {r:D} (hc:iC P f dz r) (ha:ia (args.map fun x=>x.kY (oI [])) (dz.map .d))
 (hk:uc P k0 F ms ((foot,[])::acc) (iq d env (.d r)) s):lq P k0 F ms acc foot d env s f args:=.inl ⟨_,ha,.inl ⟨r,hc,hk⟩⟩
theorem K4{P:Program}{k0:Nat}{F:List (List Nat×List Nat)->List AV->gL->Prop}{ms:List iH}{acc:List (List Nat×List Nat)}{foot:List Nat}{d:Option Nat}{env:List AV}{s:gL}
 {f:Nat} {args:List AV} {dz rs:List D} (hc:pn P f dz rs) (ha:ia (args.map fun x=>x.kY (oI [])) (dz.map .d))
 (hk:uc P k0 F ms ((foot,[])::acc) (iq d env (.nk (rs.map .d))) s):lq P k0 F ms acc foot d env s f args:=.inl ⟨_,ha,.inr ⟨rs,hc,hk⟩⟩
theorem jT.iA{P:Program}{f:Nat}{mc:gH}{n:Nat}{rs:List xo}(h:jT P f mc n rs){args:List D}{r:D}
 (hm:pG P 0 mc (Fs rs fun x _=>AV.le x (.d r)) (args.map .d++List.replicate (n-(args.map AV.d).length) .iB) []):iC P f args r:=
 (h.calls hm).mono fun _ _ hx=>⟨_,hx,rfl⟩
theorem jT.qn{P:Program}{f:Nat}{mc:gH}{n:Nat}{rs:List xo}(h:jT P f mc n rs){args:List D}{ds:List D}
 (hm:pG P 0 mc (Fs rs fun x _=>AV.le x (.nk (ds.map .d))) (args.map .d++List.replicate (n-(args.map AV.d).length) .iB) []):pn P f args ds:=
 (h.calls hm).mono fun _ _ hx=>⟨_,hx,rfl⟩
def xu{σ β:Type}(f:σ->Option (σ⊕β)):Nat->σ->β->Prop
 |0,_,_=>False
 |n+1,s,b=>f s=some (.inr b)\/∃s',f s=some (.inl s')/\xu f n s' b
theorem xu.det{σ β:Type}{f:σ->Option (σ⊕β)}:∀{n m:Nat}{s:σ}{b c:β},xu f n s b->xu f m s c->b=c
 |0,_,_,_,_,h,_=>h.elim
 |_+1,0,_,_,_,_,h=>h.elim
 |n+1,m+1,s,b,c,h1,h2=>by
  rcases h1 with h1|⟨s1,h1,h3⟩<;>rcases h2 with h2|⟨s2,h2,h4⟩<;>rw[h1]at h2<;>cases h2
  ·rfl
  ·exact xu.det h3 h4
open Classical in
def gK{σ β:Type}(f:σ->Option (σ⊕β))(s:σ):Option β:=if h:∃b n,xu f n s b then some (choose h)else none
theorem ye{σ β:Type}{f:σ->Option (σ⊕β)}{s:σ}{b:β}(h:gK f s=some b):∃n,xu f n s b:=by
 unfold gK at h;split at h
 ·rename_i hx;cases h;exact eU hx
 ·cases h
theorem xu.gK{σ β:Type}{f:σ->Option (σ⊕β)}{n:Nat}{s:σ}{b:β}(h:xu f n s b):gK f s=some b:=by
 have hx:∃b n,xu f n s b:=⟨b,n,h⟩;unfold kI.gK;rw[dif_pos hx];obtain⟨m,hm⟩:=eU hx;rw[hm.det h]
theorem ij{σ β:Type}{f:σ->Option (σ⊕β)}{s:σ}{b:β}(h:f s=some (.inr b)):gK f s=some b:=xu.gK (n:=1) (.inl h)
theorem kX{σ β:Type}{f:σ->Option (σ⊕β)}{s s':σ}(h:f s=some (.inl s')):gK f s=gK f s':=by
 cases hx:gK f s' with
 |some b=>obtain⟨n,hn⟩:=ye hx;exact xu.gK (n:=n+1) (.inr ⟨s',h,hn⟩)
 |none=>
  cases hy:gK f s with
  |none=>rfl
  |some b=>
   obtain⟨n,hn⟩:=ye hy;cases n with
   |zero=>exact hn.elim
   |succ n=>
    rcases hn with hn|⟨s2,h2,h3⟩
    ·rw[h]at hn;cases hn
    ·rw[h]at h2;cases h2;rw[h3.gK]at hx;cases hx
theorem mO{P:Program}{k:Nat}{Q:Post}{env:List AV}{s:gL}{x:gH}{σ β:Type}{f:σ->Option (σ⊕β)}{s0:σ}{b:β}(hb:gK f s0=some b)
 (ws:List Nat) (vs:σ->List (Nat×AV)) (S:σ->gL) (hw:gT k env s (vw (sx env ws) (vs s0)) (S s0))
 (round:∀p t,f p=some t->(∀b',t=.inr b'->b'=b)->pG P k x (Cy (fun env' s'=>∃p',t=.inl p'/\gT k env' s' (vw (sx env ws) (vs p')) (S p')) Q)
  (vw (sx env ws) (vs p)) (S p)):pG P k (.loop x) Q env s:=by
 obtain⟨n,hn⟩:=ye hb;refine Q6 ws (fun p:Nat×σ=>vs p.2) (fun p=>S p.2) (fun p=>xu f p.1 p.2 b) (·.1) (n,s0) hn hw ?_;rintro⟨m,p⟩ hm;cases m with
 |zero=>exact hm.elim
 |succ m=>
  rcases hm with hm|⟨p',hm,hr⟩
  ·refine(round p _ hm fun b' hb'=>by cases hb';rfl).mono fun e env s hq=>?_
   cases e with
   |normal=>obtain⟨p',hp,_⟩:=hq;cases hp
   |_=>exact hq
  ·refine(round p _ hm fun b' hb'=>by cases hb').mono fun e env s hq=>?_
   cases e with
   |normal=>obtain⟨p2,hp,hw⟩:=hq;cases hp;exact⟨(m,p'),hr,Nat.lt_succ_self m,hw⟩
   |_=>exact hq
theorem rf{α:Type}{p:Prop}[Decidable p]{a:Option α}{r:α}(h:(if p then a else none)=some r):p/\a=some r:=by
 split at h
 ·rename_i hp;exact⟨hp,h⟩
 ·cases h
theorem DD{α:Type}{c:Bool}{a b:Option α}{r:α}(h:(if c=true then a else b)=some r):(c=true/\a=some r)\/(c=false/\b=some r):=by
 cases c with
 |true=>exact .inl ⟨rfl,by simpa using h⟩
 |false=>exact .inr ⟨rfl,by simpa using h⟩
theorem bind_some{α β:Type}{x:Option α}{K:α->Option β}{r:β}(h:x.bind K=some r):∃a,x=some a/\K a=some r:=aC.1 h
theorem gY{σ β:Type}{x:Option β}{t:σ⊕β}{b:β}(h:x.map Sum.inr=some t)(hb:∀b',t=.inr b'->b'=b):x=some b:=by
 cases x with
 |none=>cases h
 |some c=>cases h;rw[hb c rfl]
open Classical in
def MF{α β:Type}(xs:List α)(a b:Option β):Option β:=if xs=[]then(if a=b then b else none)else b
theorem MG{α β:Type}{xs:List α}{a b:Option β}{r:β}(h:MF xs a b=some r):(xs=[]->a=some r)/\b=some r:=by
 unfold MF at h;split at h
 ·split at h
  ·rename_i h1;exact⟨fun _=>h1.trans h,h⟩
  ·cases h
 ·rename_i hx;exact⟨fun he=>absurd he hx,h⟩
open Classical in
def Ba{α:Type}(f:Nat->Option α):Option α:=if h:∃a n,f n=some a then some (choose h)else none
theorem pq{α:Type}{f:Nat->Option α}{a:α}(h:Ba f=some a):∃n,f n=some a:=by
 unfold Ba at h;split at h
 ·rename_i hx;cases h;exact eU hx
 ·cases h
theorem tW{p q:Prop}(hp:p)(hq:q):p/\q:=⟨hp,hq⟩
def N2(n off:Nat)(ag:Bool)(K:AV->Prop):Ob->Prop
 |.obj _ cs=>off+n<=cs.length/\K (Kx n off cs ag)
 |_=>False
theorem Ly{n id off:Nat}{ag:Bool}{s:gL}{K:AV->Prop}:rm n ag (.ptr id off) s K=N2 n off ag K (sat s id):=by
 simp only[rm];cases sat s id with
 |obj t cs=>cases ag<;>rfl
 |_=>rfl
attribute [go_sem] N2 Ly
theorem Pf:AV.rI []=some []:=rfl
theorem L3{x:D}{xs:List AV}:AV.rI (.d x::xs)=(AV.rI xs).map (x::·):=rfl
theorem Pg{e id:Nat}{ys:List D}{xs:List AV}:AV.rI (.own e id ys::xs)=none:=rfl
theorem Ph{id off:Nat}{xs:List AV}:AV.rI (.ptr id off::xs)=none:=rfl
theorem Pe{e id off len:Nat}{xs:List AV}:AV.rI (.nC e id off len::xs)=none:=rfl
theorem RG{f:Nat}{a b xs:List AV}:AV.rI (.fn f a b::xs)=none:=rfl
theorem L5{xs:List AV}:AV.rI (.iB::xs)=none:=rfl
theorem Pc{ys xs:List AV}:AV.rI (.agg ys::xs)=none:=rfl
def mkO(cs:List AV):Option (List D)->AV
 |some ds=>.d (.agg ds)
 |none=>.agg cs
theorem US:AV.mk []=.d (.agg []):=rfl
theorem Q8{x:AV}{xs:List AV}:AV.mk (x::xs)=mkO (x::xs) (AV.rI (x::xs)):=by unfold AV.mk;cases AV.rI (x::xs)<;>rfl
attribute [go_sem] Pf L3 Pg Ph Pe RG L5 Pc mkO US Q8
theorem MU:MP (.pointer none)=.d (.lit (.pointer none)):=rfl
theorem MS:MP (.map none)=.d (.lit (.map none)):=rfl
theorem Qb:MP .nilFunc=.d (.lit .nilFunc):=rfl
theorem Ub{k:IntKind}{n:Int}:cD (.int k n)=.lit (.int k n):=rfl
theorem Qe{b:Bool}:cD (.bool b)=.lit (.bool b):=rfl
theorem KX{b:ByteArray}:cD (.string b)=.lit (.string b):=rfl
theorem Uc:cD (.slice none 0 0)=.sl 0 (some true) []:=rfl
theorem Qg:cD (.pointer none)=.lit (.pointer none):=rfl
theorem Qf:cD (.map none)=.lit (.map none):=rfl
theorem Ua:cD .nilFunc=.lit .nilFunc:=rfl
theorem Rg{k:IntKind}{n:Int}:one (.int k n)=true:=rfl
theorem Ou{b:Bool}:one (.bool b)=true:=rfl
theorem Jh{b:ByteArray}:one (.string b)=true:=rfl
theorem LM{a:Option Addr}{n c:Nat}:one (.slice a n c)=true:=rfl
theorem Ri{a:Option Addr}:one (.pointer a)=true:=rfl
theorem Rh{a:Option Nat}:one (.map a)=true:=rfl
theorem Rf:one .nilFunc=true:=rfl
attribute [go_sem] MU MS Qb Ub Qe KX Uc Qg Qf Ua Rg Ou Jh LM Ri Rh Rf List.all_cons List.all_nil Bool.and_self
abbrev kD(k:IntKind)(n:Int):D:=.lit (.int k n)
abbrev sD(b:ByteArray):D:=.lit (.string b)
def gE{α:Type}(e:Nat)(f:α->D)(xs:List α):D:=.sl e none (xs.map f)
theorem Rz{α:Type}{e:Nat}{f:α->D}{xs:List α}:qO (.d (gE e f xs))=some (e,xs.map f):=rfl
theorem Re{α:Type}{e:Nat}{f:α->D}{xs:List α}:zb (.d (gE e f xs))=none:=rfl
theorem Ld{α:Type}{e:Nat}{f:α->D}{xs:List α}:AV.cells (.d (gE e f xs))=some [.d (gE e f xs)]:=rfl
theorem Ic{α:Type}{e:Nat}{f:α->D}{xs:List α}:AV.CZ (.d (gE e f xs))=none:=rfl
theorem IL{α:Type}{e:Nat}{f:α->D}{xs:List α}:gJ (gE e f xs)=[gE e f xs]:=rfl
theorem getD_map'{α:Type}[Inhabited α]{f:α->D}{l:List α}{i:Nat}{d:D}(h:i<l.length):(l.map f).getD i d=f (l.getD i default):=by simp[av,bq,aB h]
attribute [go_sem] List.length_map List.length_append Option.map_some Option.map_none Option.bind_some and_self Nat.not_lt_zero Bool.not_true Bool.not_false List.forall_mem_cons List.not_mem_nil false_imp_iff implies_true getD_map' List.map_eq_nil_iff List.append_eq_nil_iff Int.toNat_natCast Ob.tok.injEq true_or or_true false_or or_false I3 H6 Lx NT T0 jN xT wm
attribute [go_sem] L7 Pp RK Pm RN L6 Po Pn RL Pk VG VF JA Rz Re Ld Ic IL oI nJ
theorem ia.refl:∀xs:List AV,ia xs xs
 |[]=>trivial
 |x::xs=>⟨AV.le_refl x,ia.refl xs⟩
theorem xT.refl:∀o:Ob,xT o o
 |.dead=>trivial
 |.obj _ cs=>⟨rfl,ia.refl cs⟩
 |.tok _ _ _=>⟨rfl,rfl,rfl⟩
 |.iM _ _ _ _=>⟨rfl,rfl,rfl,ia.refl _⟩
 |.pI _ _ _ _=>⟨rfl,rfl,rfl,AH.refl _⟩
 |.vf _ _ _=>⟨rfl,rfl,AH.refl _⟩
 |.mp _ _ _=>⟨rfl,rfl,Pv.refl _⟩
theorem xM{β:gU}{s s':gL}(hs:∀id,xT (sat s id) (sat s' id))(b o:Nat):own β s' b o<->own β s b o:=by
 unfold own;refine exists_congr fun id=>?_
 have:=hs id;revert this;cases sat s id<;>cases sat s' id<;>intro h1<;>first|exact h1.elim|exact cM|skip
 ·obtain⟨_,rfl,rfl⟩:=h1;exact cM
 ·obtain⟨_,rfl,rfl,_⟩:=h1;exact cM
 ·obtain⟨_,rfl,rfl,_⟩:=h1;exact cM
 ·obtain⟨rfl,rfl,_⟩:=h1;exact cM
theorem Bu{β:gU}{s s':gL}(hs:∀id,xT (sat s id) (sat s' id))(id b:Nat):gF β s' id b<->gF β s id b:=by
 unfold gF;have:=hs id;revert this;cases sat s id<;>cases sat s' id<;>intro h1<;>first|exact h1.elim|exact cM|skip
 ·obtain⟨_,rfl,rfl⟩:=h1;exact cM
 ·obtain⟨_,rfl,rfl,_⟩:=h1;exact cM
 ·obtain⟨_,rfl,rfl,_⟩:=h1;exact cM
 ·obtain⟨rfl,rfl,_⟩:=h1;exact cM
theorem Inv.ctx{C:Ctx}{s1:gL}{β:gU}{s:gL}{w:World}(hs:∀id,xT (sat C.s id) (sat s1 id)):Inv C β s w<->Inv {C with s:=s1} β s w:=by
 constructor
 ·intro h;exact⟨h.size,h.io,fun b o v h1 h2=>h.keep b o v h1 fun h3=>h2 ((xM hs b o).2 h3),fun b h1 h2=>h.uy b h1 fun id h3=>h2 id ((Bu hs id b).2 h3),
   fun b o h1=>(h.rH b o h1).imp (fun h2=>(xM hs b o).2 h2) id,fun id b h1=>(h.vt id b h1).imp (fun⟨i,h2⟩=>⟨i,(Bu hs i b).2 h2⟩) (fun x=>x),h.pl,
   fun b o h1=>⟨(h.low b o h1).1,fun h2=>(h.low b o h1).2 ((xM hs b o).1 h2)⟩,h.obs,h.inj⟩
 ·intro h;exact⟨h.size,h.io,fun b o v h1 h2=>h.keep b o v h1 fun h3=>h2 ((xM hs b o).1 h3),fun b h1 h2=>h.uy b h1 fun id h3=>h2 id ((Bu hs id b).1 h3),
   fun b o h1=>(h.rH b o h1).imp (fun h2=>(xM hs b o).1 h2) id,fun id b h1=>(h.vt id b h1).imp (fun⟨i,h2⟩=>⟨i,(Bu hs i b).1 h2⟩) (fun x=>x),h.pl,
   fun b o h1=>⟨(h.low b o h1).1,fun h2=>(h.low b o h1).2 ((xM hs b o).2 h2)⟩,h.obs,h.inj⟩
theorem gN.VB{P:Program}{f:Nat}{dz:List AV}{s s1:gL}{k:Nat}{R:AV->gL->Prop}(h:gN P f dz s1 k R)(hs:jN s s1):gN P f dz s k R:=fun C vs h1 h2 h3 h4=>by
 subst h1;have hs':=hs.sat;obtain⟨h5,h6⟩:=h3.told hs';refine(h {C with s:=s1} vs rfl h2 ((Inv.ctx hs').1 h5) (by
  show AV.hM C.β (Ctx.gP {C with s:=s1} C.β s1) C.w dz vs.toList;have:Ctx.gP {C with s:=s1} C.β s1=C.gP C.β C.s:=h6;rw[this];exact h4)).mono fun e w' ⟨v,x,β',s',e1,e2,e3,e4⟩=>⟨v,x,β',s',e1,(Inv.ctx hs').2 e2,e3,e4⟩
def tq:List Nat->gL->gL
 |[],s=>s
 |i::r,s=>tq r (wm i s)
def Ar:List Nat->AV->AV
 |[],x=>x
 |i::r,x=>Ar r (x.kY (gV i))
theorem Inv.drop{C:Ctx}{β:gU}{s:gL}{w:World}(h:Inv C β s w)(id:Nat)(hid:C.k<=id):∃β',Inv C β' (wm id s) w/\
 ∀x v,AV.ok β (C.gP β s) w x v->AV.ok β' (C.gP β' (wm id s)) w (x.kY (gV id)) v:=by
 have hs:∀j,xT (sat (iL id s) j) (sat (wm id s) j):=fun j=>by rw[Bm];exact .refl _
 obtain⟨h1,h2⟩:=(h.kill id hid).told hs;exact⟨_,h1,fun x v hx=>by rw[h2];exact wO hx⟩
theorem Inv.nW{C:Ctx}{w:World}:∀{ids:List Nat}{β:gU}{s:gL},Inv C β s w->(∀i∈ids,C.k<=i)->∃β',Inv C β' (tq ids s) w/\
 ∀x v,AV.ok β (C.gP β s) w x v->AV.ok β' (C.gP β' (tq ids s)) w (Ar ids x) v
 |[],β,_,h,_=>⟨β,h,fun _ _ hx=>hx⟩
 |i::r,_,_,h,hi=>by
  obtain⟨β1,h1,h2⟩:=h.drop i (hi i (by simp));obtain⟨β2,h3,h4⟩:=h1.nW (ids:=r) fun j hj=>hi j (by simp[hj])
  exact⟨β2,h3,fun x v hx=>h4 _ _ (h2 _ _ hx)⟩
theorem gN.cut{P:Program}{f:Nat}{args:List AV}{s:gL}{k:Nat}{y:AV}{t:gL}
 (h:gN P f args s k fun x s'=>∃ids,(∀i∈ids,k<=i)/\AV.le (Ar ids x) y/\jN (tq ids s') t):gN P f args s k fun x s'=>x=y/\s'=t:=fun C vs h1 h2 h3 h4=>
 (h C vs h1 h2 h3 h4).mono fun e w' ⟨v,x,β',s',e1,e2,e3,ids,e4,e5,e6⟩=>by
  subst h2;obtain⟨β2,h5,h6⟩:=e2.nW e4;obtain⟨h7,h8⟩:=h5.told e6.sat;exact⟨v,y,β2,t,e1,h7,by rw[h8];exact e5 _ _ _ _ (h6 _ _ e3),rfl,rfl⟩
theorem jT.jO{P:Program}{f:Nat}{mc:gH}{n:Nat}{rs:List xo}(h:jT P f mc n rs){args:List AV}{s t:gL}{k:Nat}{y:AV}
 (hm:pG P k mc (Fs rs fun x s'=>∃ids,(∀i∈ids,k<=i)/\AV.le (Ar ids x) y/\jN (tq ids s') t) (args++List.replicate (n-args.length) .iB) s):
 gN P f args s k fun x s'=>x=y/\s'=t:=gN.cut (h.calls hm)
theorem Qx{P:Program}{k0 f:Nat}{args env:List AV}{s:gL}{d:Option Nat}{R:List AV->gL->Prop}(pr nw:List fU){dz:List AV}{s1 t:gL}{y:AV}
 (hc:gN P f dz s1 pr.length fun x s'=>x=y/\s'=t) (h1:pr.map (·.1)=List.range pr.length) (h2:((pr++nw).map (·.1)).Nodup) (h3:((pr++nw).map (·.2)).Nodup)
 (h4:∀p∈nw,sat s p.2=.dead/\k0<=p.2) (ha:ia (args.map fun x=>x.kY (oI pr)) dz) (hs:jN (nD s pr pr) s1)
 (hk:R (iq d env (y.kY (nJ (pr++nw)))) (tj s t (pr++nw) (pr++nw))):kr P k0 f args env s d R:=
 zA ⟨pr,nw,_,h1,h2,h3,h4,(hc.VB hs).args ha,fun x s' ⟨e1,e2⟩=>by subst e1;subst e2;exact hk⟩
theorem Qw{P:Program}{k0:Nat}{F:List (List Nat×List Nat)->List AV->gL->Prop}{ms:List iH}{acc:List (List Nat×List Nat)}{foot:List Nat}{d:Option Nat}{env:List AV}{s:gL}
 {f:Nat} {args:List AV} (pr nw:List fU) {dz:List AV} {s1 t:gL} {y:AV}
 (hc:gN P f dz s1 pr.length fun x s'=>x=y/\s'=t) (h1:pr.map (·.1)=List.range pr.length) (h2:((pr++nw).map (·.1)).Nodup) (h3:((pr++nw).map (·.2)).Nodup)
 (h4:∀p∈nw,sat s p.2=.dead/\k0<=p.2) (ha:ia (args.map fun x=>x.kY (oI pr)) dz) (hs:jN (nD s pr pr) s1)
 (hk:uc P k0 F ms (((pr++nw).map (·.2)++foot,(Hp t (pr++nw) (pr++nw)).map (·.1))::acc) (iq d env (y.kY (nJ (pr++nw)))) (qL s (Hp t (pr++nw) (pr++nw)))):
 lq P k0 F ms acc foot d env s f args:=.inr ⟨pr,nw,y,t,h1,h2,h3,h4,(hc.VB hs).args ha,hk⟩
theorem gN.plain{P:Program}{f:Nat}{args:List D}{y:AV}{t:gL}{r:D}(h:gN P f (args.map .d) [] 0 fun x s'=>x=y/\s'=t)(hy:AV.le y (.d r)):iC P f args r:=
 h.mono fun x s ⟨hx,_⟩=>⟨_,by rw[hx];exact hy,rfl⟩
attribute [go_sem] Hp nD tj Ob.kY tq Ar
mutual
def AV.oe(id:Nat)(ds:List D):AV->AV
 |.iB=>.iB
 |.d x=>.d x
 |.own e j xs=>if j=id then .d (.sl e none xs)else .own e j xs
 |.ptr j off=>if j=id then .iB else .ptr j off
 |.nC e j off len=>if j=id then(if e=1/\off+len<=ds.length/\(∀d∈ds,(gJ d).length=1)then .d (.sl 1 none ((ds.drop off).take len))
  else if off=0/\len=ds.length/\(∀d∈ds,(gJ d).length=e)then .d (.sl e none ds)else .iB)else .nC e j off len
 |.pv cs=>.pv cs
 |.pa cs=>.pa (AV.pX id ds cs)
 |.agg cs=>.agg (AV.pX id ds cs)
 |.nk cs=>.nk (AV.pX id ds cs)
 |.fn f a b=>.fn f (AV.pX id ds a) (AV.pX id ds b)
 |.kG e j n=>if j=id then(if n=ds.length/\(∀d∈ds,(gJ d).length=e)then .d (.sl e none ds)else .iB)else .kG e j n
 |.lT j k off=>if j=id then .iB else .lT j k off
 |.BS e xs=>.BS e xs
 |.dp x=>.dp x
 |.mp j=>if j=id then .iB else .mp j
def AV.pX(id:Nat)(ds:List D):List AV->List AV
 |[]=>[]
 |x::xs=>AV.oe id ds x::AV.pX id ds xs
end
theorem BR(id:Nat)(ds:List D):∀xs:List AV,AV.pX id ds xs=xs.map (AV.oe id ds)
 |[]=>rfl
 |x::xs=>by simp only[AV.pX,aX,BR id ds xs]
theorem HS{id:Nat}{ds:List D}{β β':gU}{O O':Own}{w w':World}{x:AV}{v:Value}(h:AV.ok β O w x v->AV.ok β' O' w' (x.oe id ds) v):
 ((∃d,x=.dp d/\x.oe id ds=.dp d)\/(∀d,x≠ .dp d)/\(∀d,x.oe id ds≠ .dp d)/\(AV.ok β O w x v->AV.ok β' O' w' (x.oe id ds) v)):=by
 cases x with
 |dp d=>exact .inl ⟨d,rfl,rfl⟩
 |own e j xs=>refine .inr ⟨fun d h=>(nomatch h),fun d h=>?_,h⟩;simp only[AV.oe]at h;split at h<;>exact nomatch h
 |ptr j off=>refine .inr ⟨fun d h=>(nomatch h),fun d h=>?_,h⟩;simp only[AV.oe]at h;split at h<;>exact nomatch h
 |nC e j off len=>refine .inr ⟨fun d h=>(nomatch h),fun d h=>?_,h⟩;simp only[AV.oe]at h;(repeat' split at h)<;>exact nomatch h
 |kG e j k=>refine .inr ⟨fun d h=>(nomatch h),fun d h=>?_,h⟩;simp only[AV.oe]at h;(repeat' split at h)<;>exact nomatch h
 |lT j k off=>refine .inr ⟨fun d h=>(nomatch h),fun d h=>?_,h⟩;simp only[AV.oe]at h;split at h<;>exact nomatch h
 |mp j=>refine .inr ⟨fun d h=>(nomatch h),fun d h=>?_,h⟩;simp only[AV.oe]at h;split at h<;>exact nomatch h
 |_=>exact .inr ⟨fun d h=>(nomatch h),fun d h=>(nomatch h),h⟩
def Ob.oe(id:Nat)(ds:List D):Ob->Ob
 |.obj t cs=>.obj t (AV.pX id ds cs)
 |.pI t e n cs=>.pI t e n (AV.pX id ds cs)
 |.vf e n cs=>.vf e n (AV.pX id ds cs)
 |x=>x
def t_(id:Nat)(ds:List D):gL->gL
 |[]=>[]
 |(j,x)::r=>if j=id then t_ id ds r else(j,x.oe id ds)::t_ id ds r
theorem zm(id:Nat)(ds:List D)(j:Nat):∀s:gL,sat (t_ id ds s) j=if j=id then .dead else(sat s j).oe id ds
 |[]=>by simp[t_,sat,Ob.oe]
 |(i,x)::r=>by
  simp only[t_];by_cases h:i=id
  ·subst h;simp only[aH,sat,zm i ds j r];split
   ·rfl
   ·rfl
  ·simp only[h,aG,sat,zm id ds j r];by_cases h2:j=i
   ·subst h2;simp[h]
   ·simp[h2]
theorem Bh{β:gU}{s:gL}{id b o:Nat}{ds:List D}(h:own (gM β id .no) (t_ id ds s) b o):∃i,i≠id/\tY β s i b o:=by
 obtain⟨i,h⟩:=h;rw[zm]at h;by_cases hi:i=id
 ·subst hi;simp at h
 ·refine⟨i,hi,?_⟩;unfold tY;simp only[hi,aG]at h;cases hs:sat s i with
  |dead=>rw[hs]at h;exact h
  |obj t cs=>rw[hs]at h;simpa[Ob.oe,gM,hi]using h
  |tok t e n=>rw[hs]at h;simpa[Ob.oe,gM,hi]using h
  |iM t e n cs=>rw[hs]at h;simpa[Ob.oe,gM,hi]using h
  |pI t e n cs=>rw[hs]at h;simpa[Ob.oe,gM,hi]using h
  |vf e n cs=>rw[hs]at h;simpa[Ob.oe,gM,hi]using h
  |mp P k es=>rw[hs]at h;first|exact h.elim|simpa[Ob.oe,gM,hi]using h
theorem yM{β:gU}{s:gL}{id i b:Nat}{ds:List D}(h:gF (gM β id .no) (t_ id ds s) i b):i≠id/\gF β s i b:=by
 unfold gF at h⊢;rw[zm]at h;by_cases hi:i=id
 ·subst hi;simp at h
 ·refine⟨hi,?_⟩;simp only[hi,aG]at h;cases hs:sat s i with
  |dead=>rw[hs]at h;exact h
  |obj t cs=>rw[hs]at h;simpa[Ob.oe,gM,hi]using h
  |tok t e n=>rw[hs]at h;simpa[Ob.oe,gM,hi]using h
  |iM t e n cs=>rw[hs]at h;simpa[Ob.oe,gM,hi]using h
  |pI t e n cs=>rw[hs]at h;simpa[Ob.oe,gM,hi]using h
  |vf e n cs=>rw[hs]at h;simpa[Ob.oe,gM,hi]using h
  |mp P k es=>rw[hs]at h;first|exact h.elim|simpa[Ob.oe,gM,hi]using h
theorem OL{O:Own}{w:World}{b:Nat}:∀{ds:List D}{vs:List Value}{o:Nat},(∀d∈ds,gJ d=[d])->D.hM O w ds vs->kN O w b o vs->D.row O w b o 1 ds
 |[],_,_,_,_,_=>by simp[D.row]
 |d::ds,vs,o,hd,h,hc=>by
  simp only[D.hM]at h;obtain⟨v,r,rfl,h1,h2,h3⟩:=h;rw[D.ni];refine⟨⟨[v],rfl,fun j u hj=>?_,?_⟩,OL (fun x hx=>hd x (by simp[hx])) h3 fun j u hj=>?_⟩
  ·cases j with
   |zero=>simp at hj;subst hj;exact hc 0 v rfl
   |succ j=>simp at hj
  ·have:=hd d (by simp);cases d with
   |agg cs=>
    simp only[gJ]at this;simp only[D.Fj];have hx:=aO List.length this;cases cs with
    |nil=>simp at hx
    |cons c cs=>
     simp only[dQ]at this;obtain⟨e1,_⟩:=this;have:=aO SizeOf.sizeOf e1;simp at this;omega
   |_=>exact⟨v,rfl,h2⟩
  ·have:=hc (j+1) u hj;rw[show o+1+j=o+(j+1) by omega];exact this
section
variable{C:Ctx}{β:gU}{s:gL}{w:World}{id t:Nat}{ds:List D}
theorem A0{b o:Nat}(h:C.gP (gM β id .no) (t_ id ds s) b o):C.gP β s b o:=h.imp (fun x=>x) fun h=>let⟨i,_,h⟩:=Bh h;⟨i,h⟩
theorem yT{x:D}{v:Value}(h:D.ok (C.gP β s) w x v):D.ok (C.gP (gM β id .no) (t_ id ds s)) w x v:=D.kL (fun _ _ _ hc hn=>⟨hc,fun h=>hn (A0 h)⟩) _ _ h
theorem xD{x:List D}{v:List Value}(h:D.hM (C.gP β s) w x v):D.hM (C.gP (gM β id .no) (t_ id ds s)) w x v:=D.jI (fun _ _ _ hc hn=>⟨hc,fun h=>hn (A0 h)⟩) _ _ h
def yI(s:gL)(id:Nat)(ds:List D):Prop:=
 (∃t,sat s id=.obj t (ds.map .d)/\∀d∈ds,gJ d=[d])\/(∃t e,sat s id=.iM t e ds.length (ds.flatMap gJ)/\∀d∈ds,(gJ d).length=e)\/
  ∃t e,sat s id=.obj t ((ds.flatMap gJ).map .d)/\(∀d∈ds,(gJ d).length=e)/\e≠1/\ds≠[]
theorem QJ(h:Inv C β s w)(ho:sat s id=.obj t (ds.map .d))(hd:∀d∈ds,gJ d=[d]){off len:Nat}(hl:off+len<=ds.length){v:Value}
 (hv:AV.ok β (C.gP β s) w (.nC 1 id off len) v):D.ok (C.gP (gM β id .no) (t_ id ds s)) w (.sl 1 none ((ds.drop off).take len)) v:=by
 simp only[AV.ok]at hv;obtain⟨b,cap,h1,⟨h2,h3⟩,rfl⟩:=hv;have hob:=h.obs id;rw[ho]at hob;obtain⟨b',vs,h4,h5,h6,h7⟩:=hob;rw[h1]at h4;cases h4;have hlen:((ds.drop off).take len).length=len:=by simp;omega
 obtain⟨pre,rest,hvs,h7⟩:=h7;have h6':∀u∈pre,one u=true:=fun u hu=>h6 u (by rw[hvs];exact bz _ hu)
 have hoks:=Bf h6' h7;have hcells:kN (C.gP (gM β id .no) (t_ id ds s)) w b 0 pre:=fun j u hj=>by
  have hju:vs[j]?=some u:=by
   have:vs.toList[j]?=some u:=by rw[hvs,aU (aP.1 hj).1];exact hj
   simpa using this
  refine⟨?_,?_,h6' u (bQ hj)⟩
  ·simp[World.cell?,h5,hju]
  ·rintro(hO|hO)
   ·have:=h.low b (0+j) hO;rcases h.rH b (0+j) ⟨id,by rw[ho];exact h1⟩with h8|h8
    ·exact this.2 h8
    ·omega
   ·obtain⟨i,hi,hO⟩:=Bh hO;exact hi (h.inj i id b hO.block (by unfold gF;rw[ho];exact h1))
 simp only[D.ok];refine⟨some ⟨b,off,none⟩,cap,by rw[hlen],by rw[hlen];exact⟨h2,h3⟩,trivial,.inr ⟨b,off,rfl,?_⟩⟩;have hall:=xD (id:=id) (ds:=ds) hoks;rw[D.jQ]at hall;refine OL (vs:=(pre.drop off).take len) (fun d hd'=>hd d (cI (bE hd'))) ?_ fun j u hj=>?_
 ·rw[D.jQ];refine⟨by simp[<-hall.1],fun i x u hx hu=>?_⟩;rw[bX]at hx hu;split at hx
  ·rename_i hi;rw[ah hi]at hu;rw[cF]at hx hu;exact hall.2 _ _ _ hx hu
  ·cases hx
 ·rw[bX]at hj;split at hj
  ·rw[cF]at hj;have:=hcells (off+j) u hj;rwa [show 0+(off+j)=off+j by omega]at this
  ·cases hj
theorem Dh{O:Own}{w:World}:∀{xs ys:List D}{vs:List Value},D.hM O w (xs++ys) vs->∃us r,vs=us++r/\D.hM O w xs us/\D.hM O w ys r
 |[],ys,vs,h=>⟨[],vs,rfl,by simp[D.hM],h⟩
 |x::xs,ys,vs,h=>by
  simp only[cg,D.hM]at h;obtain⟨v,r,rfl,h0,h1,h2⟩:=h;obtain⟨us,r',rfl,h3,h4⟩:=Dh h2;exact⟨v::us,r',rfl,by simp only[D.hM];exact⟨v,us,rfl,h0,h1,h3⟩,h4⟩
theorem Dq{O:Own}{w:World}{b e:Nat}:∀{ds:List D}{vs:List Value}{o:Nat},(∀d∈ds,(gJ d).length=e)->D.hM O w (ds.flatMap gJ) vs->kN O w b o vs->D.row O w b o e ds
 |[],_,_,_,_,_=>by simp[D.row]
 |d::ds,vs,o,hd,h,hc=>by
  rw[bJ]at h;obtain⟨us,r,rfl,h1,h2⟩:=Dh h;have hl:=D.iy h1;rw[hd d (by simp)]at hl;rw[D.ni];refine⟨⟨us,hl,fun j u hj=>?_,Kn h1⟩,Dq (fun x hx=>hd x (by simp[hx])) h2 fun j u hj=>?_⟩
  ·exact hc j u (by rw[aU (aP.1 hj).1];exact hj)
  ·have:=hc (e+j) u (by rw[bK gB,hl,eO];exact hj);rwa [<-cV]at this
theorem QI{e:Nat}(h:Inv C β s w)(ho:sat s id=.iM t e ds.length (ds.flatMap gJ)){e':Nat}(hd:∀d∈ds,(gJ d).length=e'){v:Value}
 (hv:AV.ok β (C.gP β s) w (.kG e' id ds.length) v):D.ok (C.gP (gM β id .no) (t_ id ds s)) w (.sl e' none ds) v:=by
 simp only[AV.ok]at hv;obtain⟨u,m,h1,h2,h3,_⟩:=hv;have hob:=h.obs id;rw[ho]at hob;obtain⟨u',h4,_,h6⟩:=hob;rw[h4]at h1;obtain⟨rfl,rfl⟩:=h1;have:=h3 rfl;subst this;simp only[D.ok];rcases h6 with⟨rfl,h7⟩|⟨b,cap,vs,rfl,k2,k3,k4,k5,k6,pre,rest,k7,k8⟩
 ·have:ds=[]:=bY.1 h7;subst this;exact⟨none,0,rfl,⟨ay _,gB⟩,trivial,.inl rfl⟩
 ·refine⟨_,cap,rfl,⟨k4,k5⟩,trivial,.inr ⟨b,0,rfl,Dq hd (xD k8) fun j u hj=>?_⟩⟩;have hju:vs[j]?=some u:=by
   have:vs.toList[j]?=some u:=by rw[k7,aU (aP.1 hj).1];exact hj
   simpa using this
  refine⟨by simp[World.cell?,k2,hju],?_,k6 u (by rw[k7];exact bz _ (bQ hj))⟩;have hbl:gF β s id b:=by unfold gF;rw[ho];exact⟨cap,h4⟩
  rintro(hO|hO)
  ·have:=h.low b (0+j) hO;rcases h.rH b (0+j) ⟨id,by rw[ho];exact⟨cap,h4⟩⟩with h8|h8
   ·exact this.2 h8
   ·omega
  ·obtain⟨i,hi,hO⟩:=Bh hO;exact hi (h.inj i id b hO.block hbl)
theorem Ny{e:Nat}(h:Inv C β s w)(ho:yI s id ds)(hd:∀d∈ds,(gJ d).length=e)(hn:¬(e=1/\0+ds.length<=ds.length/\∀d∈ds,(gJ d).length=1)){v:Value}
 (hv:AV.ok β (C.gP β s) w (.nC e id 0 ds.length) v):D.ok (C.gP (gM β id .no) (t_ id ds s)) w (.sl e none ds) v:=by
 simp only[AV.ok]at hv;obtain⟨b,cap,h1,⟨h2,h3⟩,rfl⟩:=hv;simp only[D.ok];by_cases hds:ds=[]
 ·subst hds;exact⟨_,cap,rfl,⟨h2,h3⟩,trivial,.inl rfl⟩
 obtain⟨d0,hd0⟩:=List.exists_mem_of_ne_nil _ hds;rcases ho with⟨t,ho,hd1⟩|⟨t,e',ho,hd1⟩|⟨t,e',ho,hd1,he1,hne⟩
 ·exfalso;have e1:=hd d0 hd0;rw[hd1 d0 hd0]at e1;exact hn ⟨e1.symm,gB,fun d hd=>by rw[hd1 d hd];rfl⟩
 ·have hob:=h.obs id;rw[ho]at hob;obtain⟨u,h4,_⟩:=hob;rw[h1]at h4;cases h4
 ·have hob:=h.obs id;rw[ho]at hob;obtain⟨b',vs,h4,h5,h6,h7⟩:=hob;rw[h1]at h4;cases h4;obtain⟨pre,rest,hvs,h7⟩:=h7;have h6':∀u∈pre,one u=true:=fun u hu=>h6 u (by rw[hvs];exact bz _ hu)
  have hoks:=Bf h6' h7;refine⟨_,cap,rfl,⟨h2,h3⟩,trivial,.inr ⟨b,0,rfl,Dq hd (xD hoks) fun j u hj=>?_⟩⟩;have hju:vs[j]?=some u:=by
   have:vs.toList[j]?=some u:=by rw[hvs,aU (aP.1 hj).1];exact hj
   simpa using this
  refine⟨by simp[World.cell?,h5,hju],?_,h6' u (bQ hj)⟩;rintro(hO|hO)
  ·have:=h.low b (0+j) hO;rcases h.rH b (0+j) ⟨id,by rw[ho];exact h1⟩with h8|h8
   ·exact this.2 h8
   ·omega
  ·obtain⟨i,hi,hO⟩:=Bh hO;exact hi (h.inj i id b hO.block (by unfold gF;rw[ho];exact h1))
mutual
theorem Am(h:Inv C β s w)(ho:yI s id ds):∀(x:AV)(v:Value),AV.ok β (C.gP β s) w x v->
 AV.ok (gM β id .no) (C.gP (gM β id .no) (t_ id ds s)) w (x.oe id ds) v
 |.iB,v=>fun _=>by simp[AV.oe,AV.ok]
 |.d x,v=>fun hv=>by simp only[AV.oe,AV.ok]at hv⊢;exact yT hv
 |.own e j xs,v=>fun hv=>by
  simp only[AV.oe];split
  ·simp only[AV.ok]at hv⊢;exact yT hv.1
  ·rename_i hj;simp only[AV.ok]at hv⊢;obtain⟨h1,u,n,h2,h3⟩:=hv;exact⟨yT h1,u,n,by simpa[gM,hj]using h2,h3⟩
 |.ptr j off,v=>fun hv=>by
  simp only[AV.oe];split
  ·simp[AV.ok]
  ·rename_i hj;simp only[AV.ok]at hv⊢;obtain⟨b,h1,h2⟩:=hv;exact⟨b,by simpa[gM,hj]using h1,h2⟩
 |.nC e j off len,v=>fun hv=>by
  simp only[AV.oe];split
  ·rename_i hj;subst hj;split
   ·rename_i hc;obtain⟨rfl,hc,hc1⟩:=hc;simp only[AV.ok];rcases ho with⟨t,ho,hd⟩|⟨t,e,ho,hd⟩|⟨t,e,ho,hd,he1,hne⟩
    ·exact QJ h ho hd hc hv
    ·have hob:=h.obs j;rw[ho]at hob;obtain⟨u,h4,_⟩:=hob;simp only[AV.ok]at hv;obtain⟨b,cap,h1,_⟩:=hv;rw[h1]at h4;cases h4
    ·obtain⟨d,hd'⟩:=List.exists_mem_of_ne_nil _ hne;exact absurd ((hd d hd').symm.trans (hc1 d hd')) he1
   ·rename_i hc1;split
    ·rename_i hc;obtain⟨rfl,rfl,hc⟩:=hc;simp only[AV.ok];exact Ny h ho hc hc1 hv
    ·simp[AV.ok]
  ·rename_i hj;simp only[AV.ok]at hv⊢;obtain⟨b,cap,h1,h2⟩:=hv;exact⟨b,cap,by simpa[gM,hj]using h1,h2⟩
 |.pv cs,v=>fun hv=>by
  simp only[AV.oe,AV.ok]at hv⊢;obtain⟨b,o,vs,h1,h2,h3⟩:=hv;exact⟨b,o,vs,h1,h2.mono (fun _ _ _ hc hn=>⟨hc,fun h=>hn (A0 h)⟩),xD h3⟩
 |.pa cs,v=>fun hv=>by
  simp only[AV.oe,AV.ok]at hv⊢;obtain⟨b,o,vs,h1,h2,h3⟩:=hv;exact⟨b,o,vs,h1,h2.mono (fun _ _ _ hc hn=>⟨hc,fun h=>hn (A0 h)⟩),wM h ho cs _ h3⟩
 |.agg cs,v=>fun hv=>by
  simp only[AV.oe,AV.ok]at hv⊢;obtain⟨vs,h1,h2,h3⟩:=hv;exact⟨vs,h1,h2,wM h ho cs _ h3⟩
 |.nk cs,v=>fun hv=>by
  simp only[AV.oe,AV.ok]at hv⊢;obtain⟨vs,h1,h3⟩:=hv;exact⟨vs,h1,wM h ho cs _ h3⟩
 |.fn f a b,v=>fun hv=>by
  simp only[AV.oe,AV.ok]at hv⊢;obtain⟨fs,cs,h1,h2,h3⟩:=hv;exact⟨fs,cs,h1,wM h ho a _ h2,wM h ho b _ h3⟩
 |.kG e j n,v=>fun hv=>by
  simp only[AV.oe];split
  ·rename_i hj;subst hj;split
   ·rename_i hc;obtain⟨rfl,hc⟩:=hc;simp only[AV.ok];rcases ho with⟨t,ho,hd⟩|⟨t,e,ho,hd⟩|⟨t,e,ho,hd,he1,hne⟩
    ·have hob:=h.obs j;rw[ho]at hob;obtain⟨b,vs,h4,_⟩:=hob;simp only[AV.ok]at hv;obtain⟨u,m,h1,_⟩:=hv;rw[h4]at h1;exact h1.elim
    ·exact QI h ho hc hv
    ·have hob:=h.obs j;rw[ho]at hob;obtain⟨b,vs,h4,_⟩:=hob;simp only[AV.ok]at hv;obtain⟨u,m,h1,_⟩:=hv;rw[h4]at h1;exact h1.elim
   ·simp[AV.ok]
  ·rename_i hj;simp only[AV.ok]at hv⊢;obtain⟨u,m,h1,h2⟩:=hv;exact⟨u,m,by simpa[gM,hj]using h1,h2⟩
 |.lT j k off,v=>fun hv=>by
  simp only[AV.oe];split
  ·simp[AV.ok]
  ·rename_i hj;simp only[AV.ok]at hv⊢;obtain⟨u,m,b,off',h1,h2⟩:=hv;exact⟨u,m,b,off',by simpa[gM,hj]using h1,h2⟩
 |.BS e xs,v=>fun hv=>by
  simp only[AV.oe,AV.ok]at hv⊢;obtain⟨a,h1,h2⟩:=hv;exact⟨a,h1,yT h2⟩
 |.dp x,v=>fun _=>by simp[AV.oe,AV.ok]
 |.mp j,v=>fun hv=>by
  simp only[AV.oe];split
  ·simp[AV.ok]
  ·rename_i hj;simp only[AV.ok]at hv⊢;obtain⟨b,h1,h2⟩:=hv;exact⟨b,by simpa[gM,hj]using h1,h2⟩
theorem wM(h:Inv C β s w)(ho:yI s id ds):∀(xs:List AV)(vs:List Value),AV.hM β (C.gP β s) w xs vs->
 AV.hM (gM β id .no) (C.gP (gM β id .no) (t_ id ds s)) w (AV.pX id ds xs) vs
 |[],vs=>fun hv=>by simpa[AV.pX,AV.hM]using hv
 |x::xs,vs=>fun hv=>by
  simp only[AV.pX,AV.hM]at hv⊢;obtain⟨v,r,h1,h2,h3⟩:=hv;exact⟨v,r,h1,Am h ho x v h2,wM h ho xs r h3⟩
end
theorem Inv.oe(h:Inv C β s w)(hid:C.k<=id)(ho:yI s id ds):Inv C (gM β id .no) (t_ id ds s) w where
 size:=h.size
 io:=h.io
 keep:=h.keep
 uy:=h.uy
 rH:=fun b o ho=>let⟨i,_,h1⟩:=Bh ho;h.rH b o ⟨i,h1⟩
 vt:=fun i b hb=>h.vt i b (yM hb).2
 pl:=fun i hi=>by
  have:i≠id:=by omega
  simpa[gM,this]using h.pl i hi
 low:=h.low
 obs:=fun i=>by
  rw[zm];by_cases hi:i=id
  ·subst hi;simp[vG,gM]
  ·simp only[hi,aG];have hob:=h.obs i;cases hs:sat s i with
   |dead=>rw[hs]at hob;simpa[Ob.oe,vG,gM,hi]using hob
   |obj t' cs=>
    rw[hs]at hob;obtain⟨b,vs,h1,h2,h0,h3⟩:=hob;exact⟨b,vs,by simpa[gM,hi]using h1,h2,h0,h3.imp fun _ hx=>wM h ho _ _ hx⟩
   |tok t' e n=>
    rw[hs]at hob;obtain⟨u,h1,h2⟩:=hob;exact⟨u,by simpa[gM,hi]using h1,h2⟩
   |iM t' e n cs=>
    rw[hs]at hob;obtain⟨u,h1,hl,h2⟩:=hob;refine⟨u,by simpa[gM,hi]using h1,hl,?_⟩;rcases h2 with h2|⟨b,cap,vs,k1,k2,k3,k4,k5,k6,pre,rest,k7,k8⟩
    ·exact .inl h2
    ·exact .inr ⟨b,cap,vs,k1,k2,k3,k4,k5,k6,pre,rest,k7,xD k8⟩
   |pI t' e n cs=>
    rw[hs]at hob;obtain⟨u,bs,h1,h0,h2⟩:=hob;refine⟨u,bs,by simpa[gM,hi]using h1,h0,?_⟩;rw[BR];exact h2.imp (f:=AV.oe id ds) (β:=β) (O:=C.gP β s) (w:=w) (fun x v=>HS (Am h ho x v)) (fun _ _=>rfl) (fun _ _ _=>rfl)
   |vf e n cs=>
    rw[hs]at hob;obtain⟨u,bs,h1,h0,h2⟩:=hob;refine⟨u,bs,by simpa[gM,hi]using h1,h0,?_⟩;rw[BR];exact h2.imp (f:=AV.oe id ds) (β:=β) (O:=C.gP β s) (w:=w) (fun x v=>HS (Am h ho x v)) (fun _ _=>rfl) (fun _ _ _ _=>rfl)
   |mp P k es=>
    rw[hs]at hob;obtain⟨b,h1,h2⟩:=hob;exact⟨b,by simpa[gM,hi]using h1,h2.imp rfl fun x v hx=>yT hx⟩
 inj:=fun i j b hi hj=>h.inj i j b (yM hi).2 (yM hj).2
end
theorem xb(id:Nat)(ds:List D):∀(xs:List AV)(i:Nat),(AV.pX id ds xs)[i]?=(xs[i]?).map (AV.oe id ds)
 |[],_=>by simp[AV.pX]
 |x::xs,0=>by simp[AV.pX]
 |x::xs,i+1=>by simp[AV.pX,xb id ds xs i]
theorem yU(id:Nat)(ds:List D):∀(xs:List AV),(AV.pX id ds xs).length=xs.length
 |[]=>rfl
 |x::xs=>by simp[AV.pX,yU id ds xs]
theorem gT.QF{k:Nat}{env:List AV}{s:gL}(id:Nat){ds:List D}(hid:k<=id)(ho:yI s id ds):
 gT k env s (AV.pX id ds env) (t_ id ds s):=fun C β a w hC hst=>by
 subst hC;refine⟨gM β id .no,hst.defers,hst.inv.oe hid ho,by rw[yU,hst.len],fun i x hx=>?_⟩;rw[xb]at hx;cases hx2:env[i]? with
 |none=>rw[hx2]at hx;cases hx
 |some y=>rw[hx2]at hx;cases hx;exact Am hst.inv ho y _ (hst.env i y hx2)
def aD{α:Type}(f:α->D)(x:α):AV:=.d (f x)
theorem UQ{α:Type}(f:α->D)(xs:List α):xs.map (aD f)=(xs.map f).map .d:=by rw[dh];rfl
theorem QK{α:Type}[Inhabited α]{f:α->D}{xs:List α}{i:Nat}(h:i<xs.length):(xs.map (aD f)).getD i .iB=.d (f (xs.getD i default)):=by simp[av,bq,aB h,aD]
theorem OU{α:Type}{f:α->D}{xs:List α}{i:Nat}{v:α}(h:i<xs.length):List.take i (xs.map (aD f))++(AV.d (f v)::List.drop (i+1) (xs.map (aD f)))=(xs.set i v).map (aD f):=by
 rw[List.map_set,dV,ah (by simpa using h)];rfl
theorem Dw{α:Type}[Inhabited α]{l:List D}{f:α->D}{xs:List α}(h:l=xs.map f){n:Nat}(hn:xs.length=n){i:Nat}{d:D}(hi:i<n):l.getD i d=f (xs.getD i default):=by subst h;exact getD_map' gB
theorem sQ{α:Type}{f:α->D}{x:AV}{v:α}(h:AV.le x (.d (f v))):∀n,ia (List.replicate n [x]).flatten ((List.replicate n v).map (aD f))
 |0=>trivial
 |n+1=>by simp only[cr,aS,aX,cg,bw];exact⟨h,sQ h n⟩
theorem E8{xs:List AV}:ia xs xs<->True:=⟨fun _=>trivial,fun _=>.refl _⟩
theorem Dt{id:Nat}{ds:List D}:AV.oe id ds .iB=.iB:=by simp only[AV.oe]
theorem Nx{id:Nat}{ds:List D}{x:D}:AV.oe id ds (.d x)=.d x:=by simp only[AV.oe]
theorem Fy{id e j:Nat}{ds xs:List D}:AV.oe id ds (.own e j xs)=if j=id then .d (.sl e none xs)else .own e j xs:=by simp only[AV.oe]
theorem Fz{id j off:Nat}{ds:List D}:AV.oe id ds (.ptr j off)=if j=id then .iB else .ptr j off:=by simp only[AV.oe]
theorem BP{id e j off len:Nat}{ds:List D}(h:¬j=id):AV.oe id ds (.nC e j off len)=.nC e j off len:=by simp only[AV.oe,az h]
class yG {α:Type} (f:α->D) (e:outParam Nat):Prop where
 len:∀x,(gJ (f x)).length=e
theorem A4{α:Type}{id n:Nat}{f:α->D}[yG f 1]{xs:List α}(h:xs.length=n):AV.oe id (xs.map f) (.nC 1 id 0 n)=.d (gE 1 f xs):=by
 simp only[AV.oe,aH,bP];rw[ah ⟨trivial,by simp[h],by rintro d hd;obtain⟨x,_,rfl⟩:=a_.1 hd;exact yG.len x⟩,bO (by simp[h])];rfl
theorem GX{α:Type}{id e n:Nat}{f:α->D}[yG f e]{xs:List α}(h:n=xs.length):AV.oe id (xs.map f) (.nC e id 0 n)=.d (gE e f xs):=by
 subst h;by_cases he:e=1
 ·subst he;exact A4 rfl
 ·simp only[AV.oe,aH];rw[az fun h=>he h.1,ah ⟨trivial,by simp,by rintro d hd;obtain⟨x,_,rfl⟩:=a_.1 hd;exact yG.len x⟩];rfl
theorem IU{id:Nat}{ds cs:List D}:AV.oe id ds (.pv cs)=.pv cs:=by simp only[AV.oe]
theorem Fx{id:Nat}{ds:List D}{cs:List AV}:AV.oe id ds (.agg cs)=.agg (AV.pX id ds cs):=by simp only[AV.oe]
theorem FA{id:Nat}{ds:List D}{cs:List AV}:AV.oe id ds (.nk cs)=.nk (AV.pX id ds cs):=by simp only[AV.oe]
theorem IT{id f:Nat}{ds:List D}{a b:List AV}:AV.oe id ds (.fn f a b)=.fn f (AV.pX id ds a) (AV.pX id ds b):=by simp only[AV.oe]
theorem Du{id:Nat}{ds:List D}:AV.pX id ds []=[]:=by simp only[AV.pX]
theorem BQ{id:Nat}{ds:List D}{x:AV}{xs:List AV}:AV.pX id ds (x::xs)=AV.oe id ds x::AV.pX id ds xs:=by simp only[AV.pX]
theorem Ka{α:Type}{id:Nat}{ds:List D}{f:α->D}:∀xs:List α,AV.pX id ds (xs.map (aD f))=xs.map (aD f)
 |[]=>by simp only[dg,AV.pX]
 |x::xs=>by simp only[aX,AV.pX,Ka xs,aD,AV.oe]
theorem Kq{α:Type}{ρ:Nat->Option Nat}{f:α->D}:∀xs:List α,AV.iI ρ (xs.map (aD f))=xs.map (aD f)
 |[]=>by simp only[dg,AV.iI]
 |x::xs=>by simp only[aX,AV.iI,Kq xs,aD,AV.kY]
theorem Ab{P:Program}{k0 f:Nat}{args env:List AV}{s:gL}{d:Option Nat}{R:List AV->gL->Prop}{α:Type}(id:Nat){t:Nat}(g:α->D)(xs:List α)(hid:k0<=id)
 (ho:sat s id=.obj t (xs.map (aD g))) (hd:∀x,gJ (g x)=[g x]) (h:kr P k0 f (AV.pX id (xs.map g) args) (AV.pX id (xs.map g) env) (t_ id (xs.map g) s) d R):
 kr P k0 f args env s d R:=fun C β a w vs hC hst hvs=>by
 subst hC;have ho':sat s id=.obj t ((xs.map g).map .d):=by rw[ho,UQ]
 have hd':∀d∈xs.map g,gJ d=[d]:=fun d h=>by obtain⟨x,_,rfl⟩:=a_.1 h;exact hd x
 refine h C (gM β id .no) a w vs rfl ⟨hst.defers,hst.inv.oe hid (.inl ⟨t,ho',hd'⟩),by rw[yU,hst.len],fun i x hx=>?_⟩ (wM hst.inv (.inl ⟨t,ho',hd'⟩) _ _ hvs);rw[xb]at hx;cases hx2:env[i]? with
 |none=>rw[hx2]at hx;cases hx
 |some y=>rw[hx2]at hx;cases hx;exact Am hst.inv (.inl ⟨t,ho',hd'⟩) y _ (hst.env i y hx2)
attribute [go_sem] Dt Nx Fy Fz BP A4 IU Fx FA IT Du BQ Ka Kq Ob.oe t_ QK OU E8 List.flatten_cons List.flatten_nil Nat.mul_one List.length_set List.length_replicate
def h_{α:Type}(f:α->D)(xs:List α):List D:=(xs.map f).flatMap gJ
theorem xE{α:Type}{f:α->D}:h_ f []=[]:=rfl
theorem ou{α:Type}{f:α->D}{x:α}{xs:List α}:h_ f (x::xs)=gJ (f x)++h_ f xs:=by simp[h_]
theorem Cn{α:Type}{f:α->D}{xs ys:List α}:h_ f (xs++ys)=h_ f xs++h_ f ys:=by simp[h_]
theorem Co{α:Type}{f:α->D}{e:Nat}(he:∀x,(gJ (f x)).length=e):∀xs:List α,(h_ f xs).length=xs.length*e
 |[]=>by simp[h_]
 |x::xs=>by rw[ou,aj,he,Co he xs,ai,bH];omega
theorem EP{α:Type}{f:α->D}{e:Nat}(he:∀x,(gJ (f x)).length=e):∀(xs:List α)(i k:Nat)[Inhabited α],i<xs.length->k<=e->
 List.drop (i*e+k) (h_ f xs)=(gJ (f (xs.getD i default))).drop k++h_ f (xs.drop (i+1))
 |[],i,k,_,h,_=>by simp at h
 |x::xs,0,k,_,h,hk=>by
  rw[ou,ew,bk,cz (by rw[he];exact hk)];simp
 |x::xs,i+1,k,_,h,hk=>by
  have e1:(i+1)*e+k=(gJ (f x)).length+(i*e+k):=by rw[he,bH];omega
  rw[ou,e1,List.drop_append,bt gB,bw,eO,EP he xs i k (by simpa using h) hk];simp
theorem Li{α:Type}[Inhabited α]{f:α->D}{e:Nat}(he:∀x,(gJ (f x)).length=e){xs:List α}{i k:Nat}(hi:i<xs.length)(hk:k<e){d:D}:
 (h_ f xs).getD (i*e+k) d=(gJ (f (xs.getD i default))).getD k d:=by
 have h:=EP he xs i k hi gB;have h1:(h_ f xs).getD (i*e+k) d=(List.drop (i*e+k) (h_ f xs)).getD 0 d:=by simp[av]
 have h2:k<(gJ (f (xs.getD i default))).length:=by rw[he];exact hk
 rw[h1,h];simp only[av];rw[aU (by rw[bR,he];omega),cF];simp
theorem Inv.KH{C:Ctx}{β:gU}{s:gL}{w:World}(h:Inv C β s w){id t e:Nat}(ho:sat s id=.tok t e 0):
 Inv C β (sset s id (.iM t e 0 [])) w/\C.gP β (sset s id (.iM t e 0 []))=C.gP β s:=by
 have hown:∀b o,own β (sset s id (.iM t e 0 [])) b o<->own β s b o:=fun b o=>by
  unfold own;refine exists_congr fun i=>?_
  rw[jg];by_cases hi:i=id
  ·subst hi;rw[ho];simp
  ·rw[az hi]
 have hblk:∀i b,gF β (sset s id (.iM t e 0 [])) i b<->gF β s i b:=fun i b=>by
  unfold gF;rw[jg];by_cases hi:i=id
  ·subst hi;rw[ho];simp
  ·rw[az hi]
 have hf:C.gP β (sset s id (.iM t e 0 []))=C.gP β s:=by funext b o;exact propext (or_congr cM (hown b o))
 refine⟨⟨h.size,h.io,h.keep,h.uy,fun b o ho=>h.rH b o ((hown b o).1 ho),fun id b hb=>h.vt id b ((hblk id b).1 hb),h.pl,h.low,fun i=>?_,
  fun i j b hi hj=>h.inj i j b ((hblk i b).1 hi) ((hblk j b).1 hj)⟩,hf⟩
 rw[hf,jg];have h1:=h.obs i;by_cases hi:i=id
 ·subst hi;rw[ho]at h1;obtain⟨u,h2,h3⟩:=h1;simp only[aH];refine⟨u,h2,by simp,?_⟩;rcases h3 with h3|⟨b,cap,vs,k1,k2,k3,k4,k5,k6⟩
  ·exact .inl h3
  ·exact .inr ⟨b,cap,vs,k1,k2,k3,k4,k5,k6,[],vs.toList,rfl,by simp[D.hM]⟩
 ·rw[az hi];exact h1
theorem IW{C:Ctx}{β:gU}{O:Own}{s:gL}{w:World}(h:Inv C β s w){id t e e':Nat}(ho:sat s id=.tok t e' 0){v:Value}(hv:AV.ok β O w (.own e id []) v):
 AV.ok β O w (.kG e id 0) v:=by
 have h1:=h.obs id;rw[ho]at h1;obtain⟨u,h2,h3⟩:=h1;simp only[AV.ok]at hv⊢;obtain⟨_,u',n,h4,_,h6⟩:=hv;rw[h2]at h4;obtain⟨rfl,rfl⟩:=h4;have:=h6 rfl;subst this;refine⟨v,0,by rw[h2];exact⟨rfl,rfl⟩,ay _,fun _=>rfl,?_⟩;rcases h3 with⟨h3,_⟩|⟨b,cap,vs,k1,k2,k3,k4,k5,k6⟩
 ·exact .inl ⟨none,h3,trivial⟩
 ·exact .inr ⟨b,cap,k1,k4,k5⟩
theorem gT.TP{k:Nat}{env:List AV}{s:gL}(i id t e:Nat){e0:Nat}(hd:sat s id=.dead)(hi:env[i]?=some (.d (.sl e0 (some true) []))):
 gT k env s (env.set i (.kG e id 0)) (sset (sset s id (.tok t e 0)) id (.iM t e 0 [])):=(gT.EB i id t e hd hi).trans fun C β a w hC hst=>by
 have ho:sat (sset s id (.tok t e 0)) id=.tok t e 0:=by rw[jg,ah rfl]
 obtain⟨h1,hf⟩:=hst.inv.KH ho;refine⟨β,hst.defers,h1,by rw[hst.len,eo,eo],fun j x hj=>?_⟩;rw[hf];rw[cO]at hj;split at hj
 ·rename_i hij;subst hij;split at hj
  ·rename_i hlt;cases hj;exact IW hst.inv ho (hst.env i _ (by rw[cO,ah rfl,ah hlt]))
  ·cases hj
 ·rename_i hij;exact hst.env j x (by rw[cO,az hij];exact hj)
theorem yI.iM{α:Type}{s:gL}{id t e:Nat}(f:α->D)(xs:List α)(ho:sat s id=.iM t e xs.length (h_ f xs))(he:∀x,(gJ (f x)).length=e):yI s id (xs.map f):=
 .inr (.inl ⟨t,e,by rw[aM];exact ho,fun d hd=>by obtain⟨x,_,rfl⟩:=a_.1 hd;exact he x⟩)
theorem gT.QG{α:Type}{k:Nat}{env:List AV}{s:gL}(id:Nat){t e:Nat}(f:α->D)(xs:List α)(hid:k<=id)(ho:sat s id=.iM t e xs.length (h_ f xs))(he:∀x,(gJ (f x)).length=e):
 gT k env s (AV.pX id (xs.map f) env) (t_ id (xs.map f) s):=gT.QF id hid (.iM f xs ho he)
theorem NA{α:Type}{id e:Nat}{f:α->D}(he:∀x,(gJ (f x)).length=e){xs:List α}:AV.oe id (xs.map f) (.kG e id xs.length)=.d (gE e f xs):=by
 simp only[AV.oe,aH];rw[ah ⟨by simp,fun d hd=>by obtain⟨x,_,rfl⟩:=a_.1 hd;exact he x⟩];rfl
theorem BO{id e j n:Nat}{ds:List D}(h:¬j=id):AV.oe id ds (.kG e j n)=.kG e j n:=by simp only[AV.oe,az h]
theorem Dr{id j k off:Nat}{ds:List D}:AV.oe id ds (.lT j k off)=if j=id then .iB else .lT j k off:=by simp only[AV.oe]
def gX(k:Nat)(x:AV)(s:gL)(y:AV)(t:gL):Prop:=∀(C:Ctx)(β:gU)(w:World)(v:Value),C.k=k->Inv C β s w->AV.ok β (C.gP β s) w x v->
 ∃β',Inv C β' t w/\AV.ok β' (C.gP β' t) w y v
theorem gX.refl{k:Nat}{x:AV}{s:gL}:gX k x s x s:=fun _ β _ _ _ h1 h2=>⟨β,h1,h2⟩
theorem gX.trans{k:Nat}{x y z:AV}{s t u:gL}(h1:gX k x s y t)(h2:gX k y t z u):gX k x s z u:=fun C β w v hC h3 h4=>let⟨β1,h5,h6⟩:=h1 C β w v hC h3 h4;h2 C β1 w v hC h5 h6
theorem gX.told{k:Nat}{x y:AV}{s t:gL}(hx:AV.le x y)(hs:jN s t):gX k x s y t:=fun C β w v _ h3 h4=>by
 obtain⟨h1,hf⟩:=h3.told hs.sat;exact⟨β,h1,by rw[hf];exact hx _ _ _ _ h4⟩
theorem gX.nW{k:Nat}{x:AV}{s:gL}(ids:List Nat)(hi:∀i∈ids,k<=i):gX k x s (Ar ids x) (tq ids s):=fun C β w v hC h3 h4=>by
 subst hC;obtain⟨β1,h1,h2⟩:=h3.nW hi;exact⟨β1,h1,h2 _ _ h4⟩
theorem gX.oe{k:Nat}{x:AV}{s:gL}(id:Nat){ds:List D}(hid:k<=id)(ho:yI s id ds):gX k x s (x.oe id ds) (t_ id ds s):=fun C β w v hC h3 h4=>by
 subst hC;exact⟨_,h3.oe hid ho,Am h3 ho _ _ h4⟩
theorem gN.done{P:Program}{f:Nat}{args:List AV}{s:gL}{k:Nat}{y:AV}{t:gL}(h:gN P f args s k fun x s'=>gX k x s' y t):gN P f args s k fun x s'=>x=y/\s'=t:=fun C vs h1 h2 h3 h4=>
 (h C vs h1 h2 h3 h4).mono fun _ w' ⟨v,_,β',_,e1,e2,e3,e4⟩=>let⟨β2,h5,h6⟩:=e4 C β' w' v h2 e2 e3;⟨v,y,β2,t,e1,h5,h6,rfl,rfl⟩
theorem jT.Ai{P:Program}{f:Nat}{mc:gH}{n:Nat}{rs:List xo}(h:jT P f mc n rs){args:List AV}{s t:gL}{k:Nat}{y:AV}
 (hm:pG P k mc (Fs rs fun x s'=>gX k x s' y t) (args++List.replicate (n-args.length) .iB) s):gN P f args s k fun x s'=>x=y/\s'=t:=gN.done (h.calls hm)
theorem gN.then{P:Program}{f:Nat}{args:List AV}{s:gL}{k:Nat}{x y:AV}{u t:gL}(h:gN P f args s k fun x' s'=>x'=x/\s'=u)(hd:gX k x u y t):
 gN P f args s k fun x' s'=>x'=y/\s'=t:=gN.done fun C vs h1 h2 h3 h4=>
 (h C vs h1 h2 h3 h4).mono fun _ _ ⟨v,x',β',s',e1,e2,e3,e4,e5⟩=>⟨v,x',β',s',e1,e2,e3,by rw[e4,e5];exact hd⟩
def tV(i j:Nat):Nat->Option Nat:=fun q=>if q=i then some j else if q=j then none else some q
def rG(i j:Nat)(β:gU):gU:=fun q=>if q=j then β i else if q=i then .no else β q
def rX(i j:Nat)(ob:Ob):gL->gL
 |[]=>[(j,ob)]
 |(q,x)::r=>if q=i\/q=j then rX i j ob r else(q,x.kY (tV i j))::rX i j ob r
theorem B8(i j:Nat)(ob:Ob)(q:Nat):∀s:gL,sat (rX i j ob s) q=if q=j then ob else if q=i then .dead else(sat s q).kY (tV i j)
 |[]=>by by_cases h:q=j<;>simp[rX,sat,h,Ob.kY]
 |(p,x)::r=>by
  simp only[rX];by_cases hp:p=i\/p=j
  ·rw[ah hp,B8 i j ob q r];by_cases h1:q=j
   ·simp[h1]
   ·by_cases h2:q=i
    ·simp[h2]
    ·have:q≠p:=by rintro rfl;exact hp.elim h2 h1
     simp only[h1,h2,aG,sat,this]
  ·rw[az hp];simp only[sat,B8 i j ob q r];by_cases h1:q=p
   ·subst h1;have h2:¬q=i:=fun e=>hp (.inl e)
    have h3:¬q=j:=fun e=>hp (.inr e)
    simp[h2,h3]
   ·simp[h1]
theorem Inv.Yh{C:Ctx}{β:gU}{s s':gL}{w:World}(h:Inv C β s w){i j:Nat}(hi:C.k<=i)(hj:C.k<=j)(hij:i≠j)(hd:sat s j=.dead)
 (hs:∀q,sat s' q=if q=j then(sat s i).kY (tV i j)else if q=i then .dead else(sat s q).kY (tV i j)):
 Inv C (rG i j β) s' w/\∀x v,AV.ok β (C.gP β s) w x v->AV.ok (rG i j β) (C.gP (rG i j β) s') w (x.kY (tV i j)) v:=by
 have from_:∀q,(q=i/\sat s' q=.dead)\/∃p,sat s' q=(sat s p).kY (tV i j)/\rG i j β q=β p/\(p=if q=j then i else q):=fun q=>by
  by_cases h1:q=j
  ·subst h1;exact .inr ⟨i,by rw[hs,ah rfl],by simp[rG],by simp⟩
  ·by_cases h2:q=i
   ·subst h2;exact .inl ⟨rfl,by rw[hs,az h1,ah rfl]⟩
   ·exact .inr ⟨q,by rw[hs,az h1,az h2],by simp[rG,h1,h2],by simp[h1]⟩
 have hown:∀b o,own (rG i j β) s' b o<->own β s b o:=fun b o=>by
  constructor
  ·rintro⟨q,hq⟩;rcases from_ q with⟨_,h1⟩|⟨p,h1,h2,_⟩
   ·rw[h1]at hq;exact hq.elim
   ·exact⟨p,(td (i:=p) (j:=q) h2 h1).1 hq⟩
  ·rintro⟨p,hp⟩;by_cases h1:p=i
   ·subst h1;exact⟨j,(td (i:=p) (j:=j) (ρ:=tV p j) (by simp[rG]) (by rw[hs,ah rfl])).2 hp⟩
   ·by_cases h2:p=j
    ·subst h2;rw[hd]at hp;exact hp.elim
    ·exact⟨p,(td (i:=p) (j:=p) (ρ:=tV i j) (by simp[rG,h1,h2]) (by rw[hs,az h2,az h1])).2 hp⟩
 have hblk:∀q b,gF (rG i j β) s' q b->∃p,gF β s p b/\(p=if q=j then i else q)/\(q=j\/q≠i):=fun q b hq=>by
  rcases from_ q with⟨_,h1⟩|⟨p,h1,h2,h3⟩
  ·unfold gF at hq;rw[h1]at hq;exact hq.elim
  ·refine⟨p,(wV h2 h1).1 hq,h3,?_⟩;by_cases h4:q=j
   ·exact .inl h4
   ·refine .inr fun h5=>?_
    subst h5;unfold gF at hq;rw[hs,az h4,ah rfl]at hq;exact hq.elim
 have hf:C.gP (rG i j β) s'=C.gP β s:=by funext b o;exact propext (or_congr cM (hown b o))
 have hρ:∀a b,tV i j a=some b->rG i j β b=β a:=fun a b hab=>by
  unfold tV at hab;split at hab
  ·rename_i h1;cases hab;subst h1;simp[rG]
  ·split at hab
   ·cases hab
   ·rename_i h1 h2;cases hab;simp[rG,h1,h2]
 refine⟨⟨h.size,h.io,h.keep,h.uy,fun b o ho=>h.rH b o ((hown b o).1 ho),fun q b hb=>let⟨p,hp,_⟩:=hblk q b hb;h.vt p b hp,fun q hq=>?_,h.low,fun q=>?_,fun q q' b h1 h2=>?_⟩,
  fun x v hx=>by rw[hf];exact AV.xd hρ x v hx⟩
 ·have h1:q≠i:=by omega
  have h2:q≠j:=by omega
  simpa[rG,h1,h2]using h.pl q hq
 ·rw[hf];rcases from_ q with⟨h0,h1⟩|⟨p,h1,h2,_⟩
  ·rw[h1];subst h0;simp[vG,rG,hij]
  ·rw[h1];have ho:=h.obs p;cases hp:sat s p with
   |dead=>rw[hp]at ho;exact h2.trans ho
   |obj t cs=>rw[hp]at ho;obtain⟨b,vs,k1,k2,k3,k4⟩:=ho;exact⟨b,vs,h2.trans k1,k2,k3,k4.imp fun _ hx=>AV.vL hρ _ _ hx⟩
   |tok t e n=>rw[hp]at ho;obtain⟨u,k1,k2⟩:=ho;exact⟨u,h2.trans k1,k2⟩
   |iM t e n cs=>rw[hp]at ho;obtain⟨u,k1,k2⟩:=ho;exact⟨u,h2.trans k1,k2⟩
   |pI t e n cs=>
    rw[hp]at ho;obtain⟨u,bs,k1,k0,k2⟩:=ho;refine⟨u,bs,h2.trans k1,k0,?_⟩;show Ge _ _ _ _ _ _ _ _ (AV.iI _ cs);rw[ov];exact k2.imp (fun x v=>r_ fun hx=>AV.xd hρ _ _ hx) (fun _ _=>rfl) (fun _ _ _=>rfl)
   |vf e n cs=>
    rw[hp]at ho;obtain⟨u,bs,k1,k0,k2⟩:=ho;refine⟨u,bs,h2.trans k1,k0,?_⟩;show Gf _ _ _ _ _ _ _ (AV.iI _ cs);rw[ov];exact k2.imp (fun x v=>r_ fun hx=>AV.xd hρ _ _ hx) (fun _ _=>rfl) (fun _ _ _ _=>rfl)
   |mp P k es=>rw[hp]at ho;obtain⟨b,k1,k2⟩:=ho;exact⟨b,h2.trans k1,k2⟩
 ·obtain⟨p,hp,e1,e2⟩:=hblk q b h1;obtain⟨p',hp',e3,e4⟩:=hblk q' b h2;have:=h.inj p p' b hp hp';subst this;rw[e1]at e3;by_cases h5:q=j<;>by_cases h6:q'=j<;>simp[h5,h6]at e3 e2 e4⊢<;>first|exact e3|exact absurd e3.symm e4|exact absurd e3 e2|skip
theorem gX.move{k:Nat}{x:AV}{s:gL}(i j:Nat){ob:Ob}(hi:k<=i)(hj:k<=j)(hij:i≠j)(hd:sat s j=.dead)(ho:(sat s i).kY (tV i j)=ob):
 gX k x s (x.kY (tV i j)) (rX i j ob s):=fun C β w v hC h3 h4=>by
 subst hC;obtain⟨h5,h6⟩:=h3.Yh (s':=rX i j ob s) hi hj hij hd fun q=>by rw[B8,ho]
 exact⟨_,h5,h6 x v h4⟩
class Cz {α:Type} (f:α->D):Prop where
 one:∀x,gJ (f x)=[f x]
instance:yG iD 1:=⟨fun _=>rfl⟩
instance:yG bD 1:=⟨fun _=>rfl⟩
instance{k:IntKind}:yG (kD k) 1:=⟨fun _=>rfl⟩
instance:yG sD 1:=⟨fun _=>rfl⟩
instance{α:Type}{e:Nat}{f:α->D}:yG (gE e f) 1:=⟨fun _=>rfl⟩
instance:Cz iD:=⟨fun _=>rfl⟩
instance:Cz bD:=⟨fun _=>rfl⟩
instance{k:IntKind}:Cz (kD k):=⟨fun _=>rfl⟩
instance:Cz sD:=⟨fun _=>rfl⟩
instance{α:Type}{e:Nat}{f:α->D}:Cz (gE e f):=⟨fun _=>rfl⟩
section
variable{α:Type}[Inhabited α]{f:α->D}{e:Nat}{xs ys:List α}{i k n:Nat}{y:α}{d:D}{ds:List D}
theorem G0[yG f e](hi:i<xs.length)(hk:0<e):(h_ f xs).getD (i*e) d=(gJ (f (xs.getD i default))).getD 0 d:=Li (k:=0) yG.len hi hk
theorem NJ[yG f 1](hi:i<xs.length):(h_ f xs).getD i d=(gJ (f (xs.getD i default))).getD 0 d:=by have:=G0 (f:=f) (e:=1) (d:=d) hi gB;rwa [eX]at this
omit [Inhabited α]in
theorem QN[yG f e]:(h_ f xs).length=xs.length*e:=Co yG.len xs
omit [Inhabited α]in
theorem NI:List.flatMap gJ (List.map f ys)=h_ f ys:=rfl
omit [Inhabited α]in
theorem QM:h_ f xs++h_ f ys=h_ f (xs++ys):=Cn.symm
omit [Inhabited α]in
theorem Kb[Cz f]:h_ f xs=xs.map f:=by
 induction xs with
 |nil=>rfl
 |cons x xs ih=>rw[ou,Cz.one,ih];rfl
omit [Inhabited α]in
theorem Lk[Cz f]:h_ f xs++f y::ds=h_ f (xs++[y])++ds:=by rw[Cn,ou,Cz.one,xE,aL];rfl
omit [Inhabited α]in
theorem G1[Cz f](hi:i<xs.length):List.take i (h_ f xs)++f y::List.drop (i+1) (h_ f xs)=h_ f (xs.set i y):=by rw[Kb,Kb,List.map_set,dV,ah (by simpa using hi)]
omit [Inhabited α]in
theorem Lj[Cz f](hi:i<xs.length):List.take i (h_ f xs)++[f y]++List.drop (i+1) (h_ f xs)=h_ f (xs.set i y):=by rw[aL];exact G1 hi
omit [Inhabited α]in
theorem Nz[yG f e]{id:Nat}:AV.oe id (xs.map f) (.kG e id xs.length)=.d (gE e f xs):=NA yG.len
omit [Inhabited α]in
theorem gT.QE[yG f e]{k0 t:Nat}{env:List AV}{s:gL}(id:Nat)(f':α->D)(hf:f'=f)(xs:List α)(hid:k0<=id)(ho:sat s id=.iM t e xs.length (h_ f xs)):
 gT k0 env s (AV.pX id (xs.map f') env) (t_ id (xs.map f') s):=by subst hf;exact gT.QG id f' xs hid ho yG.len
omit [Inhabited α]in
theorem gX.ZK[yG f e]{k0 t:Nat}{x:AV}{s:gL}(id:Nat)(f':α->D)(hf:f'=f)(xs:List α)(hid:k0<=id)(ho:sat s id=.iM t e xs.length (h_ f xs)):
 gX k0 x s (x.oe id (xs.map f')) (t_ id (xs.map f') s):=by subst hf;exact gX.oe id hid (.iM f' xs ho yG.len)
end
attribute [go_sem] G0 NJ QN NI QM Lk G1 Lj ou xE
attribute [go_sem] BO Dr
theorem K8{e id n:Nat}:AV.cells (.kG e id n)=some [.kG e id n]:=rfl
theorem IE{id k off:Nat}:AV.cells (.lT id k off)=some [.lT id k off]:=rfl
theorem Pd{e id n:Nat}{xs:List AV}:AV.rI (.kG e id n::xs)=none:=rfl
theorem L4{id k off:Nat}{xs:List AV}:AV.rI (.lT id k off::xs)=none:=rfl
attribute [go_sem] K8 IE Pd L4 tV rX
theorem gN.R9{P:Program}{f:Nat}{args:List AV}{s:gL}{k:Nat}{z:AV}(h:gN P f args s k fun x s'=>∃y t,gX k x s' y t/\AV.le y z):gN P f args s k fun x _=>x=z:=fun C vs h1 h2 h3 h4=>
 (h C vs h1 h2 h3 h4).mono fun _ w' ⟨v,_,β',_,e1,e2,e3,_,t,e4,e5⟩=>let⟨β2,h5,h6⟩:=e4 C β' w' v h2 e2 e3;⟨v,z,β2,t,e1,h5,e5 _ _ _ _ h6,rfl⟩
theorem jT.Yk{P:Program}{f:Nat}{mc:gH}{n:Nat}{rs:List xo}(h:jT P f mc n rs){args:List D}{r:D}
 (hm:pG P 0 mc (Fs rs fun x s'=>∃y t,gX 0 x s' y t/\AV.le y (.d r)) (args.map .d++List.replicate (n-(args.map AV.d).length) .iB) []):iC P f args r:=gN.R9 (h.calls hm)
theorem jT.U0{P:Program}{f:Nat}{mc:gH}{n:Nat}{rs:List xo}(h:jT P f mc n rs){args:List D}{ds:List D}
 (hm:pG P 0 mc (Fs rs fun x s'=>∃y t,gX 0 x s' y t/\AV.le y (.nk (ds.map .d))) (args.map .d++List.replicate (n-(args.map AV.d).length) .iB) []):pn P f args ds:=gN.R9 (h.calls hm)
theorem GZ{C:Ctx}{β:gU}{O:Own}{s:gL}{w:World}(h:Inv C β s w){id t e e':Nat}{cs:List D}(ho:sat s id=.iM t e' 0 cs){v:Value}(hv:AV.ok β O w (.own e id []) v):
 AV.ok β O w (.kG e id 0) v:=by
 have h1:=h.obs id;rw[ho]at h1;obtain⟨u,h2,_,h3⟩:=h1;simp only[AV.ok]at hv⊢;obtain⟨_,u',n,h4,_,h6⟩:=hv;rw[h2]at h4;obtain⟨rfl,rfl⟩:=h4;have:=h6 rfl;subst this;refine⟨v,0,by rw[h2];exact⟨rfl,rfl⟩,ay _,fun _=>rfl,?_⟩;rcases h3 with⟨h3,_⟩|⟨b,cap,vs,k1,k2,k3,k4,k5,_⟩
 ·exact .inl ⟨none,h3,trivial⟩
 ·exact .inr ⟨b,cap,k1,k4,k5⟩
theorem gT.KH{k:Nat}{env:List AV}{s:gL}{id t e:Nat}(ho:sat s id=.tok t e 0):gT k env s env (sset s id (.iM t e 0 [])):=fun _ β _ _ _ hst=>by
 obtain⟨h1,hf⟩:=hst.inv.KH ho;exact⟨β,hst.defers,h1,hst.len,fun j x hj=>by rw[hf];exact hst.env j x hj⟩
theorem gT.VW{k:Nat}{env:List AV}{s:gL}{o j id t t' e e':Nat}{cs:List AV}{ds:List D}(ho:sat s o=.obj t' cs)(hj:cs[j]?=some (.own e id []))(hi:sat s id=.iM t e' 0 ds):
 gT k env s env (sset s o (.obj t' (cs.set j (.kG e id 0)))):=fun _ β _ _ _ hst=>
 ⟨β,hst.OI ho fun _ hv=>FL hj (fun _ hv=>GZ hst.inv hi hv) hv⟩
theorem gT.E6{k:Nat}{env:List AV}{s:gL}(o j id t e:Nat){e0 t':Nat}{cs:List AV}(hd:sat s id=.dead)(ho:sat s o=.obj t' cs)(hj:cs[j]?=some (.d (.sl e0 (some true) []))):
 gT k env s env (sset (sset s id (.iM t e 0 [])) o (.obj t' (cs.set j (.kG e id 0)))):=by
 have hoi:o≠id:=by rintro rfl;rw[hd]at ho;cases ho
 have hjl:j<cs.length:=(aP.1 hj).1;refine(gT.rZ o j id t e hd ho hj).trans ((gT.KH (id:=id) (t:=t) (e:=e) (by rw[jg,az (Ne.symm hoi),jg,ah rfl])).trans
  ((gT.VW (o:=o) (j:=j) (id:=id) (t:=t) (t':=t') (e:=e) (e':=e) (cs:=cs.set j (.own e id [])) (ds:=[]) (by rw[jg,az hoi,jg,ah rfl])
   (by rw[cO,ah rfl,ah hjl]) (by rw[jg,ah rfl])).trans (gT.VB fun q=>?_)))
 rw[List.set_set];simp only[jg];by_cases h1:q=o
 ·simp[h1]
 ·by_cases h2:q=id<;>simp[h1,h2]
section
variable{α:Type}{f:α->D}{e:Nat}{xs:List α}
theorem A3[yG f e]{id n:Nat}(h:n=xs.length):AV.oe id (xs.map f) (.kG e id n)=.d (gE e f xs):=by subst h;exact Nz
theorem gT.QH[yG f e]{k0 t n:Nat}{env:List AV}{s:gL}{ds:List D}(id:Nat)(f':α->D)(hf:f'=f)(xs:List α)(hid:k0<=id)(ho:sat s id=.iM t e n ds)(hn:n=xs.length)(hs:ds=h_ f xs):
 gT k0 env s (AV.pX id (xs.map f') env) (t_ id (xs.map f') s):=by subst hn;subst hs;exact gT.QE id f' hf xs hid ho
theorem gX.ZL[yG f e]{k0 t n:Nat}{x:AV}{s:gL}{ds:List D}(id:Nat)(f':α->D)(hf:f'=f)(xs:List α)(hid:k0<=id)(ho:sat s id=.iM t e n ds)(hn:n=xs.length)(hs:ds=h_ f xs):
 gX k0 x s (x.oe id (xs.map f')) (t_ id (xs.map f') s):=by subst hn;subst hs;exact gX.ZK id f' hf xs hid ho
end
attribute [go_sem] A3
theorem V1{d:D}{ds:List D}:List.flatMap gJ (d::ds)=gJ d++List.flatMap gJ ds:=bJ
theorem V2:List.flatMap gJ []=[]:=rfl
attribute [go_sem] V1 V2
def gG{α:Type}(t:Prop)(x:Option α)(P:α->Prop):Prop:=(∀a,x=some a->P a)/\(t->∃a,x=some a)
theorem gG.some{α:Type}{t:Prop}{a:α}{P:α->Prop}(h:P a):gG t (Option.some a) P:=⟨fun b hb=>by cases hb;exact h,fun _=>⟨a,rfl⟩⟩
theorem gG.bind{α β:Type}{t:Prop}{x:Option α}{f:α->Option β}{P:α->Prop}{Q:β->Prop}(h:gG t x P)(hf:∀a,P a->gG t (f a) Q):gG t (x.bind f) Q:=
 ⟨fun b hb=>let⟨a,h1,h2⟩:=aC.1 hb;(hf a (h.1 a h1)).1 b h2,fun ht=>by
  obtain⟨a,ha⟩:=h.2 ht;obtain⟨b,hb⟩:=(hf a (h.1 a ha)).2 ht;exact⟨b,by rw[ha,aa,hb]⟩⟩
theorem gG.need{α:Type}{t p:Prop}[Decidable p]{x:Option α}{P:α->Prop}(hp:p)(h:gG t x P):gG t (if p then x else none) P:=by rw[ah hp];exact h
theorem gG.ite{α:Type}{t:Prop}{c:Bool}{x y:Option α}{P:α->Prop}(h1:c=true->gG t x P)(h2:c=false->gG t y P):gG t (if c=true then x else y) P:=by
 cases c with
 |true=>simpa using h1 rfl
 |false=>simpa using h2 rfl
theorem gG.mono{α:Type}{t:Prop}{x:Option α}{P Q:α->Prop}(h:gG t x P)(hq:∀a,P a->Q a):gG t x Q:=⟨fun a ha=>hq a (h.1 a ha),h.2⟩
theorem gG.weak{α:Type}{t t':Prop}{x:Option α}{P:α->Prop}(h:gG t x P)(ht:t'->t):gG t' x P:=⟨h.1,fun hx=>h.2 (ht hx)⟩
theorem gG.inr{σ β:Type}{t:Prop}{x:Option β}{P:σ⊕β->Prop}(h:gG t x fun b=>P (.inr b)):gG t (x.map Sum.inr) P:=
 ⟨fun a ha=>by
  cases x with
  |none=>cases ha
  |some b=>cases ha;exact h.1 b rfl,fun ht=>let⟨a,ha⟩:=h.2 ht;⟨.inr a,by rw[ha];rfl⟩⟩
theorem gG.eq{α:Type}{x:Option α}{a:α}(h:gG True x (·=a)):x=Option.some a:=by obtain⟨b,hb⟩:=h.2 trivial;rw[hb,h.1 b hb]
theorem gG.of{α:Type}{t:Prop}{x:Option α}{a:α}{P:α->Prop}(h:x=Option.some a)(hp:P a):gG t x P:=by rw[h];exact .some hp
theorem gG.get{α:Type}{x:Option α}{P:α->Prop}(h:gG True x P):∃a,x=Option.some a/\P a:=by obtain⟨b,hb⟩:=h.2 trivial;exact⟨b,hb,h.1 b hb⟩
theorem gG.T5{α β:Type}{t:Prop}{xs:List α}{a b:Option β}{P:β->Prop}(h:gG t b P)(he:xs=[]->a=b):gG t (MF xs a b) P:=by
 unfold MF;split
 ·rename_i hx;rw[ah (he hx)];exact h
 ·exact h
def tC{σ β:Type}(inv:σ->Prop)(μ:σ->Nat)(Q:β->Prop)(m:Nat):σ⊕β->Prop
 |.inl s'=>inv s'/\μ s'<m
 |.inr b=>Q b
theorem gG.loop{σ β:Type}{t:Prop}{f:σ->Option (σ⊕β)}{Q:β->Prop}(inv:σ->Prop)(μ:σ->Nat){s:σ}(h0:inv s)(h:∀s,inv s->gG t (f s) (tC inv μ Q (μ s))):gG t (gK f s) Q:=by
 constructor
 ·intro b hb;obtain⟨n,hn⟩:=ye hb;clear hb;induction n generalizing s with
  |zero=>exact hn.elim
  |succ n ih=>
   rcases hn with hn|⟨s',hs,hn⟩
   ·exact(h s h0).1 _ hn
   ·exact ih ((h s h0).1 _ hs).1 hn
 ·intro ht;have key:∀n s,μ s=n->inv s->∃b,gK f s=Option.some b:=by
   intro n;induction n using Nat.strongRecOn with
   |_ n ih=>
    intro s hn hs;obtain⟨r,hr⟩:=(h s hs).2 ht;have:=(h s hs).1 r hr;cases r with
    |inl s'=>obtain⟨b,hb⟩:=ih (μ s') (hn▸this.2) s' rfl this.1;exact⟨b,by rw[kX hr,hb]⟩
    |inr b=>exact⟨b,ij hr⟩
  exact key _ s rfl h0
theorem gG.lim{α:Type}{t:Prop}{f:Nat->Option α}{P:α->Prop}(m:Nat)(h:∀n,gG (m<=n) (f n) P):gG t (Ba f) P:=by
 constructor
 ·intro a ha;obtain⟨n,hn⟩:=pq ha;exact(h n).1 a hn
 ·intro _;obtain⟨a,ha⟩:=(h m).2 (ay _);have hx:∃a n,f n=Option.some a:=⟨a,m,ha⟩;unfold Ba;rw[dif_pos hx];exact⟨_,rfl⟩
def ue{α:Type}(e:Nat)(f:α->D)(xs:List α):D:=.sl e (some xs.isEmpty) (xs.map f)
section
variable{α:Type}{e id:Nat}{f:α->D}{xs:List α}{O:Own}{w:World}
theorem Rx:qO (.d (ue e f xs))=some (e,xs.map f):=rfl
theorem Rb:zb (.d (ue e f xs))=some xs.isEmpty:=rfl
theorem La:AV.cells (.d (ue e f xs))=some [.d (ue e f xs)]:=rfl
theorem Ib:AV.CZ (.d (ue e f xs))=none:=rfl
theorem IK:gJ (ue e f xs)=[ue e f xs]:=rfl
theorem DL.nz(h:0<xs.length):DL (gE e f xs) (ue e f xs):=fun O w v hv=>by
 simp only[gE,ue,D.ok]at hv⊢;obtain⟨a,cap,h1,h2,_,h4⟩:=hv;refine⟨a,cap,h1,h2,?_,h4⟩;have hne:xs≠[]:=bM.1 h;have he:xs.isEmpty=false:=by simpa using hne
 rcases h4 with h4|⟨b,o,rfl,_⟩
 ·exact absurd (List.map_eq_nil_iff.1 h4) hne
 ·simp[KL,he]
theorem DL.TF:DL (ue e f xs) (gE e f xs):=DL.forget
theorem DL.UW{e':Nat}:DL (.sl e' (some true) []) (ue e f []):=fun O w v hv=>by
 simp only[ue,D.ok,dg]at hv⊢;obtain⟨a,cap,h1,h2,h3,h4⟩:=hv;exact⟨a,cap,h1,h2,h3,.inl trivial⟩
theorem CO(h:0<xs.length):AV.le (.d (gE e f xs)) (.d (ue e f xs))<->True:=⟨fun _=>trivial,fun _=>AV.yc (DL.nz h)⟩
theorem Aq(h:0<xs.length):AV.le (.own e id (xs.map f)) (.d (ue e f xs))<->True:=⟨fun _=>trivial,fun _=>AV.QY fun O w v hv=>DL.nz h O w v hv⟩
theorem yd{e':Nat}:AV.le (.d (.sl e' (some true) [])) (.d (ue e f []))<->True:=⟨fun _=>trivial,fun _=>AV.yc DL.UW⟩
theorem zM:AV.le (.d (ue e f xs)) (.d (gE e f xs))<->True:=⟨fun _=>trivial,fun _=>AV.yc DL.TF⟩
end
instance{α:Type}{e:Nat}{f:α->D}:yG (ue e f) 1:=⟨fun _=>rfl⟩
instance{α:Type}{e:Nat}{f:α->D}:Cz (ue e f):=⟨fun _=>rfl⟩
theorem ia.set:∀{xs:List AV}{i:Nat}{a b:AV},AV.le a b->ia (xs.set i a) (xs.set i b)
 |[],_,_,_,_=>trivial
 |_::xs,0,_,_,h=>⟨h,.refl xs⟩
 |x::_,i+1,_,_,h=>⟨AV.le_refl x,ia.set h⟩
theorem Q0{α:Type}{f:α->D}{xs:List α}{i:Nat}{a:AV}{v:α}(h:i<xs.length)(hle:AV.le a (.d (f v))):
 ia (List.take i (xs.map (aD f))++(a::List.drop (i+1) (xs.map (aD f)))) ((xs.set i v).map (aD f)):=by
 have e1:List.take i (xs.map (aD f))++(a::List.drop (i+1) (xs.map (aD f)))=(xs.map (aD f)).set i a:=by rw[dV,ah (by simpa using h)]
 rw[e1,List.map_set];exact ia.set hle
attribute [go_sem] Rx Rb La Ib IK zM yd
theorem mq{α β:Type}{f:α->β}{l:List α}{n:Nat}:List.take n (List.map f l)=List.map f (List.take n l):=List.map_take.symm
theorem mo{α β:Type}{f:α->β}{l:List α}{n:Nat}:List.drop n (List.map f l)=List.map f (List.drop n l):=List.map_drop.symm
theorem nj{α:Type}{l:List α}{n:Nat}(h:l.length<=n):List.take n l=l:=bO h
theorem nh{α:Type}{l:List α}{n:Nat}(h:l.length<=n):List.drop n l=[]:=bt h
theorem EA:jN [] []:=trivial
theorem yE{i:Nat}{x y:Ob}{r r':gL}(h:xT x y)(hr:jN r r'):jN ((i,x)::r) ((i,y)::r'):=⟨rfl,h,hr⟩
theorem DK{α:Type}{f:α->D}{xs:List α}{i:Nat}{a:AV}{v:α}(h:i<xs.length)(hle:AV.le a (.d (f v))):
 ia (List.map (aD f) (List.take i xs)++[a]++List.map (aD f) (List.drop (i+1) xs)) ((xs.set i v).map (aD f)):=by
 have:=Q0 (f:=f) (xs:=xs) (i:=i) (a:=a) (v:=v) h hle;rw[aL];simpa only[List.map_take,List.map_drop,cg,bw]using this
theorem Ut:ia [] []:=trivial
theorem Us{x y:AV}{xs ys:List AV}(h:AV.le x y)(h':ia xs ys):ia (x::xs) (y::ys):=⟨h,h'⟩
theorem Uq:qu [] []:=trivial
theorem Up{x y:D}{xs ys:List D}(h:D.le x y)(h':qu xs ys):qu (x::xs) (y::ys):=⟨h,h'⟩
theorem ya{e e':Nat}{nl:Option Bool}:D.le (.sl e nl []) (.sl e' none []):=fun O w vs h=>by
 simp only[D.Fj]at h⊢;obtain⟨v,h1,h2⟩:=h;exact⟨v,h1,DL.nil _ _ _ h2⟩
theorem sM{e:Nat}{nl:Option Bool}{xs:List D}:D.le (.sl e nl xs) (.sl e none xs):=fun O w vs h=>by
 simp only[D.Fj]at h⊢;obtain⟨v,h1,h2⟩:=h;exact⟨v,h1,DL.forget _ _ _ h2⟩
theorem x_{xs ys:List D}(h:T0 xs ys):D.le (.agg xs) (.agg ys):=fun O w vs hv=>by
 simp only[D.Fj]at hv⊢;exact h.hM hv
theorem I4{α:Type}{e:Nat}{f:α->D}{xs:List α}:AV.le (.d (ue e f xs)) (.d (.sl e none (xs.map f)))<->True:=⟨fun _=>trivial,fun _=>AV.yc DL.TF⟩
attribute [go_sem] I4
theorem Xn{α:Type}{x:AV}{f:α->D}{v:α}:AV.le x (aD f v)=AV.le x (.d (f v)):=(rfl)
theorem Ky{α:Type}{f:α->D}{xs:List α}{i:Nat}{v:α}(h:i<xs.length):List.map (aD f) (List.take i xs)++(AV.d (f v)::List.map (aD f) (List.drop (i+1) xs))=(xs.set i v).map (aD f):=by rw[List.map_take,List.map_drop];exact OU h
theorem OV{α:Type}{f:α->D}{xs:List α}{i:Nat}{v:α}(h:i<xs.length):List.map (aD f) (List.take i xs)++[AV.d (f v)]++List.map (aD f) (List.drop (i+1) xs)=(xs.set i v).map (aD f):=by rw[aL];exact Ky h
attribute [go_sem] Xn Ky OV
theorem g_{p q:Prop}(hq:q)(h:p=q:=by first|((conv=>lhs;simp(maxSteps:=1000000) (disch:=omega)only[go_sem,mq,mo,nj,nh,bP,bg,bw,Nat.reduceAdd,Nat.reduceSub,Nat.reduceLeDiff,Nat.reduceEqDiff,Nat.reduceLT,Int.reduceToNat,reduceIte,reduceCtorEq])<;>rfl)|rfl):p:=h▸hq
theorem O8{c p q:Prop}(hc:c)(hq:q)(h:p=q:=by first|((conv=>lhs;simp(maxSteps:=1000000) (disch:=omega)only[go_sem,mq,mo,nj,nh,bP,bg,bw,Nat.reduceAdd,Nat.reduceSub,Nat.reduceLeDiff,Nat.reduceEqDiff,Nat.reduceLT,Int.reduceToNat,reduceIte,reduceCtorEq,hc])<;>rfl)|rfl):p:=h▸hq
theorem jF{p:Prop}(h:p:=by first|(simp only[go_sem,gE,aQ,List.map_take,List.map_drop,aL,Nat.reduceAdd,Nat.reduceSub,Nat.reduceLeDiff,Nat.reduceEqDiff,Nat.reduceLT,reduceIte,reduceCtorEq];done)|((try simp only[go_sem,gE,aQ,List.map_take,List.map_drop,aL,Nat.reduceAdd,Nat.reduceSub,Nat.reduceLeDiff,Nat.reduceEqDiff,Nat.reduceLT,reduceIte,reduceCtorEq];repeat' (first|exact AV.le_refl _|refine And.intro ?_ ?_|refine AV.yY ?_|refine AV.wP ?_|refine AV.Ap ?_|refine AV.yc (DL.agg ?_)|exact Ut|exact EA|refine Us ?_ ?_|refine yE ?_ ?_|exact Uq|refine Up ?_ ?_|exact sQ (AV.yc DL.nil) _|exact D.le_refl _|exact ya|exact sM|refine x_ ?_|(simp only[go_sem,gE,aQ,List.map_take,List.map_drop,aL,Nat.reduceAdd,Nat.reduceSub,Nat.reduceLeDiff,Nat.reduceEqDiff,Nat.reduceLT,reduceIte,reduceCtorEq];done)|refine qu.append (qu.refl _) ?_|refine AV.uC ?_|refine AV.DH ?_|omega));done)):p:=h
section
variable{P:Program}{k0 f:Nat}{args env:List AV}{s:gL}{d:Option Nat}{R:List AV->gL->Prop}{F:List (List Nat×List Nat)->List AV->gL->Prop}{ms:List iH}{acc:List (List Nat×List Nat)}{foot:List Nat}
end
theorem wk{k:Nat}{env env':List AV}{s s':gL}(h:ia env env':=by first|(simp only[go_sem,gE,aQ,List.map_take,List.map_drop,aL,Nat.reduceAdd,Nat.reduceSub,Nat.reduceLeDiff,Nat.reduceEqDiff,Nat.reduceLT,reduceIte,reduceCtorEq];done)|((try simp only[go_sem,gE,aQ,List.map_take,List.map_drop,aL,Nat.reduceAdd,Nat.reduceSub,Nat.reduceLeDiff,Nat.reduceEqDiff,Nat.reduceLT,reduceIte,reduceCtorEq];repeat' (first|exact AV.le_refl _|refine And.intro ?_ ?_|refine AV.yY ?_|refine AV.wP ?_|refine AV.Ap ?_|refine AV.yc (DL.agg ?_)|exact Ut|exact EA|refine Us ?_ ?_|refine yE ?_ ?_|exact Uq|refine Up ?_ ?_|exact sQ (AV.yc DL.nil) _|exact D.le_refl _|exact ya|exact sM|refine x_ ?_|(simp only[go_sem,gE,aQ,List.map_take,List.map_drop,aL,Nat.reduceAdd,Nat.reduceSub,Nat.reduceLeDiff,Nat.reduceEqDiff,Nat.reduceLT,reduceIte,reduceCtorEq];done)|refine qu.append (qu.refl _) ?_|refine AV.uC ?_|refine AV.DH ?_|omega));done))(hs:jN s s':=by first|(simp only[go_sem,gE,aQ,List.map_take,List.map_drop,aL,Nat.reduceAdd,Nat.reduceSub,Nat.reduceLeDiff,Nat.reduceEqDiff,Nat.reduceLT,reduceIte,reduceCtorEq];done)|((try simp only[go_sem,gE,aQ,List.map_take,List.map_drop,aL,Nat.reduceAdd,Nat.reduceSub,Nat.reduceLeDiff,Nat.reduceEqDiff,Nat.reduceLT,reduceIte,reduceCtorEq];repeat' (first|exact AV.le_refl _|refine And.intro ?_ ?_|refine AV.yY ?_|refine AV.wP ?_|refine AV.Ap ?_|refine AV.yc (DL.agg ?_)|exact Ut|exact EA|refine Us ?_ ?_|refine yE ?_ ?_|exact Uq|refine Up ?_ ?_|exact sQ (AV.yc DL.nil) _|exact D.le_refl _|exact ya|exact sM|refine x_ ?_|(simp only[go_sem,gE,aQ,List.map_take,List.map_drop,aL,Nat.reduceAdd,Nat.reduceSub,Nat.reduceLeDiff,Nat.reduceEqDiff,Nat.reduceLT,reduceIte,reduceCtorEq];done)|refine qu.append (qu.refl _) ?_|refine AV.uC ?_|refine AV.DH ?_|omega));done)):gT k env s env' s':=gT.Xm h hs
theorem yS{p:Prop}(h:p:=by(try simp(disch:=first|omega|(simp only[aj,ai,bB,eo,aM,List.length_replicate,Nat.reduceAdd]<;>fail)|fail)only[Ar,AV.kY,AV.iI,tV,gV,FA,Fx,BQ,Du,A4,GX,BP,A3,BO,Nx,Dt,Fy,IT,IU,Fz,Dr]);first|(simp only[go_sem,gE,aQ,List.map_take,List.map_drop,aL,Nat.reduceAdd,Nat.reduceSub,Nat.reduceLeDiff,Nat.reduceEqDiff,Nat.reduceLT,reduceIte,reduceCtorEq];done)|((try simp only[go_sem,gE,aQ,List.map_take,List.map_drop,aL,Nat.reduceAdd,Nat.reduceSub,Nat.reduceLeDiff,Nat.reduceEqDiff,Nat.reduceLT,reduceIte,reduceCtorEq];repeat' (first|exact AV.le_refl _|refine And.intro ?_ ?_|refine AV.yY ?_|refine AV.wP ?_|refine AV.Ap ?_|refine AV.yc (DL.agg ?_)|exact Ut|exact EA|refine Us ?_ ?_|refine yE ?_ ?_|exact Uq|refine Up ?_ ?_|exact sQ (AV.yc DL.nil) _|exact D.le_refl _|exact ya|exact sM|refine x_ ?_|(simp only[go_sem,gE,aQ,List.map_take,List.map_drop,aL,Nat.reduceAdd,Nat.reduceSub,Nat.reduceLeDiff,Nat.reduceEqDiff,Nat.reduceLT,reduceIte,reduceCtorEq];done)|refine qu.append (qu.refl _) ?_|refine AV.uC ?_|refine AV.DH ?_|omega));done)):p:=h
theorem aaa{p q:Prop}(hq:q)(h:p=q:=by first|((conv=>lhs;simp(disch:=first|omega|(simp only[aj,ai,bB,eo,aM,List.length_replicate,Nat.reduceAdd]<;>fail)|fail)only[FA,Fx,BQ,Du,A4,GX,BP,A3,BO,Nx,Dt,Fy,IT,IU,Fz,Dr])<;>rfl)|rfl):p:=h▸hq
section
variable{α:Type}{f:α->D}{e:Nat}
theorem gX.fz[yG f e]{k0 t n:Nat}{x:AV}{s:gL}{ds:List D}(id:Nat)(f':α->D)(hf:f'=f)(xs:List α)(ho:sat s id=.iM t e n ds:=by exact rfl)(hid:k0<=id:=by omega)(hn:n=xs.length:=by simp)
 (hs:ds=h_ f xs:=by first|rfl|simp only[go_sem,gE,aQ,List.map_take,List.map_drop,aL,Nat.reduceAdd,Nat.reduceSub,Nat.reduceLeDiff,Nat.reduceEqDiff,Nat.reduceLT,reduceIte,reduceCtorEq]):gX k0 x s (x.oe id (xs.map f')) (t_ id (xs.map f') s):=gX.ZL id f' hf xs hid ho hn hs
theorem gT.fz[yG f e]{k0 t n:Nat}{env:List AV}{s:gL}{ds:List D}(id:Nat)(f':α->D)(hf:f'=f)(xs:List α)(ho:sat s id=.iM t e n ds:=by exact rfl)(hid:k0<=id:=by omega)(hn:n=xs.length:=by simp)
 (hs:ds=h_ f xs:=by first|rfl|simp only[go_sem,gE,aQ,List.map_take,List.map_drop,aL,Nat.reduceAdd,Nat.reduceSub,Nat.reduceLeDiff,Nat.reduceEqDiff,Nat.reduceLT,reduceIte,reduceCtorEq]):gT k0 env s (AV.pX id (xs.map f') env) (t_ id (xs.map f') s):=gT.QH id f' hf xs hid ho hn hs
end
section
variable{P:Program}{k:Nat}{Q:Post}{env:List AV}{s:gL}
end
section
attribute [local irreducible] sO uf uc lu kf pG iV xm xQ wz xP wu pY kr lq xO ia jN
end
section
attribute [local irreducible] sO uf uc lu kf pG iV xm xQ wz xP wu pY kr lq xO ia jN
end
def sq:Nat->List tB->List iH
 |_,[]=>[]
 |n,x::xs=>⟨some n,x,none⟩::sq (n+1) xs
def sg(g:Nat)(b:Bool):Nat->List tB->List iH
 |_,[]=>[]
 |n,x::xs=>⟨some n,x,some (some g,b)⟩::sg g b (n+1) xs
def s0(x:tB):List iH:=[⟨none,x,none⟩]
def t0(n:Nat):Operand:=.tmp n
def i0(n:Int):Operand:=.const (.int .i64 n)
def VC:List Nat->List Operand
 |[]=>[]
 |n::ns=>.tmp n::VC ns
def mv(n:Nat):tB:=.mv (.tmp n)
def mi(n:Int):tB:=.mv (.const (.int .i64 n))
def mb(b:Bool):tB:=.mv (.const (.bool b))
def ld(n:Nat):tB:=.load 1 false (.tmp n)
def la(e n:Nat):tB:=.load e true (.tmp n)
def fa(o n:Nat):tB:=.PT o (.tmp n)
def cf(f:Nat)(ns:List Nat):tB:=.iw f (VC ns)
def pa(a b:Nat):tB:=.pick (.tmp a) (.tmp b) (.const (.bool false))
def po(a b:Nat):tB:=.pick (.tmp a) (.const (.bool true)) (.tmp b)
def bn(o:BinOp)(a b:Nat):tB:=.bin o (.tmp a) (.tmp b)
def bi(o:BinOp)(a:Nat)(n:Int):tB:=.bin o (.tmp a) (.const (.int .i64 n))
def nt(n:Nat):tB:=.un .not (.tmp n)
def ln(n:Nat):tB:=.len (.tmp n)
def ex(n i:Nat):tB:=.ext (.tmp n) i
def ix(e a b:Nat):tB:=.tD e (.tmp a) (.tmp b)
def bo(d t n:Nat):tB:=.box d t (.tmp n)
def ap(d t e b x y:Nat):tB:=.app d t e b (.tmp x) (.tmp y)
def sr(n a b:Nat):tB:=.store n (.tmp a) (.tmp b)
theorem Z9{n:Nat}:sq n []=[]:=(rfl)
theorem Z8{n:Nat}{x:tB}{xs:List tB}:sq n (x::xs)=⟨some n,x,none⟩::sq (n+1) xs:=(rfl)
theorem Z7{g:Nat}{b:Bool}{n:Nat}:sg g b n []=[]:=(rfl)
theorem Z6{g:Nat}{b:Bool}{n:Nat}{x:tB}{xs:List tB}:sg g b n (x::xs)=⟨some n,x,some (some g,b)⟩::sg g b (n+1) xs:=(rfl)
theorem Z5{x:tB}:s0 x=[⟨none,x,none⟩]:=(rfl)
theorem aab{n:Nat}:t0 n=.tmp n:=(rfl)
theorem ZN{n:Int}:i0 n=.const (.int .i64 n):=(rfl)
theorem YC:VC []=[]:=(rfl)
theorem YB{n:Nat}{ns:List Nat}:VC (n::ns)=.tmp n::VC ns:=(rfl)
theorem ZZ{n:Nat}:mv n=.mv (.tmp n):=(rfl)
theorem ZY{n:Int}:mi n=.mv (.const (.int .i64 n)):=(rfl)
theorem ZX{b:Bool}:mb b=.mv (.const (.bool b)):=(rfl)
theorem ZR{n:Nat}:ld n=.load 1 false (.tmp n):=(rfl)
theorem ZQ{e n:Nat}:la e n=.load e true (.tmp n):=(rfl)
theorem YZ{o n:Nat}:fa o n=.PT o (.tmp n):=(rfl)
theorem YX{f:Nat}{ns:List Nat}:cf f ns=.iw f (VC ns):=(rfl)
theorem Z2{a b:Nat}:pa a b=.pick (.tmp a) (.tmp b) (.const (.bool false)):=(rfl)
theorem Z3{a b:Nat}:po a b=.pick (.tmp a) (.const (.bool true)) (.tmp b):=(rfl)
theorem YV{o:BinOp}{a b:Nat}:bn o a b=.bin o (.tmp a) (.tmp b):=(rfl)
theorem YU{o:BinOp}{a:Nat}{n:Int}:bi o a n=.bin o (.tmp a) (.const (.int .i64 n)):=(rfl)
theorem Z0{n:Nat}:nt n=.un .not (.tmp n):=(rfl)
theorem ZV{n:Nat}:ln n=.len (.tmp n):=(rfl)
theorem YY{n i:Nat}:ex n i=.ext (.tmp n) i:=(rfl)
theorem ZP{e a b:Nat}:ix e a b=.tD e (.tmp a) (.tmp b):=(rfl)
theorem YW{d t n:Nat}:bo d t n=.box d t (.tmp n):=(rfl)
theorem YT{d t e b x y:Nat}:ap d t e b x y=.app d t e b (.tmp x) (.tmp y):=(rfl)
theorem Z_{n a b:Nat}:sr n a b=.store n (.tmp a) (.tmp b):=(rfl)
attribute [go_sem] Z9 Z8 Z7 Z6 Z5 aab ZN YC YB ZZ ZY ZX ZR ZQ YZ YX Z2 Z3 YV YU Z0 ZV YY ZP YW YT Z_
class gW {α:Type} (x:Option α) (Q:outParam (α->Prop)):Prop where
 c:∀{r:α},x=some r->Q r
def RV{α β:Type}(x:Option α)(K:α->Option β)(r:β):Prop:=x.bind K=some r
def Ite{α:Type}(c:Bool)(a b:Option α)(r:α):Prop:=(if c=true then a else b)=some r
def Nds{α:Type}(p:Prop)(a:Option α)(r:α):Prop:=p/\a=some r
theorem toB{α β:Type}{x:Option α}{K:α->Option β}{r:β}(h:x.bind K=some r):RV x K r:=h
theorem toI{α:Type}{c:Bool}{a b:Option α}{r:α}(h:(if c=true then a else b)=some r):Ite c a b r:=h
theorem toN{α:Type}{p:Prop}[Decidable p]{a:Option α}{r:α}(h:(if p then a else none)=some r):Nds p a r:=rf h
theorem toE{α:Type}{x r:α}(h:some x=some r):x=r:=en h
theorem toF{α:Type}{r:α}(h:none=some r):False:=by cases h
theorem it{α:Type}{c:Bool}{a b:Option α}{r:α}{p q1 q2:Prop}(h:Ite c a b r)(k1:c=true->a=some r->q1)(k2:c=false->b=some r->q2)
 (e1:c=true->p=q1:=by intro hc;(try simp only[aj,ai,bB,aM,Nat.reduceAdd]at hc);first|((conv=>lhs;simp(maxSteps:=1000000) (disch:=omega)only[go_sem,mq,mo,nj,nh,bP,bg,bw,Nat.reduceAdd,Nat.reduceSub,Nat.reduceLeDiff,Nat.reduceEqDiff,Nat.reduceLT,Int.reduceToNat,reduceIte,reduceCtorEq,hc])<;>rfl)|rfl)
 (e2:c=false->p=q2:=by intro hc;(try simp only[aj,ai,bB,aM,Nat.reduceAdd]at hc);first|((conv=>lhs;simp(maxSteps:=1000000) (disch:=omega)only[go_sem,mq,mo,nj,nh,bP,bg,bw,Nat.reduceAdd,Nat.reduceSub,Nat.reduceLeDiff,Nat.reduceEqDiff,Nat.reduceLT,Int.reduceToNat,reduceIte,reduceCtorEq,hc])<;>rfl)|rfl):p:=
 (DD h).elim (fun h=>(e1 h.1).symm▸k1 h.1 h.2) fun h=>(e2 h.1).symm▸k2 h.1 h.2
def Rt(p:Prop):Prop:=p
theorem Z4{c x:Prop}(h:c):Rt (c/\x)=Rt x:=propext ⟨fun k=>k.2,fun k=>⟨h,k⟩⟩
theorem Eg{p q:Prop}(hq:q)(e:p=q:=by first|((conv=>lhs;change Rt _;simp(maxSteps:=1000000) (disch:=omega)only[Z4,go_sem,mq,mo,nj,nh,bP,bg,bw,Nat.reduceAdd,Nat.reduceSub,Nat.reduceLeDiff,Nat.reduceEqDiff,Nat.reduceLT,Int.reduceToNat,reduceIte,reduceCtorEq];delta Rt)<;>rfl)|rfl):p:=e▸hq
theorem ndN{α:Type}{c p q:Prop}{a:Option α}{r:α}(h:Nds c a r)(k:c->a=some r->q)
 (e:c->p=q:=by intro hp;(try(have hq':=hp;simp only[aj,ai,bB,aM,Nat.reduceAdd]at hq'));first|((conv=>lhs;change Rt _;simp(maxSteps:=1000000) (disch:=omega)only[Z4,go_sem,mq,mo,nj,nh,bP,bg,bw,Nat.reduceAdd,Nat.reduceSub,Nat.reduceLeDiff,Nat.reduceEqDiff,Nat.reduceLT,Int.reduceToNat,reduceIte,reduceCtorEq];delta Rt)<;>rfl)|rfl):p:=(e h.1).symm▸(k h.1 h.2)
theorem iU{α:Type}{c p q:Prop}{_:Decidable c}{a:Option α}{r:α}(h:(if c then a else none)=some r)(k:c->a=some r->q)
 (e:c->p=q:=by intro hp;(try(have hq':=hp;simp only[aj,ai,bB,aM,Nat.reduceAdd]at hq'));first|((conv=>lhs;change Rt _;simp(maxSteps:=1000000) (disch:=omega)only[Z4,go_sem,mq,mo,nj,nh,bP,bg,bw,Nat.reduceAdd,Nat.reduceSub,Nat.reduceLeDiff,Nat.reduceEqDiff,Nat.reduceLT,Int.reduceToNat,reduceIte,reduceCtorEq];delta Rt)<;>rfl)|rfl):p:=(e (rf h).1).symm▸(k (rf h).1 (rf h).2)
section
variable{α β:Type}{P:Program}{k0 f:Nat}{args env:List AV}{s:gL}{d:Option Nat}{R:List AV->gL->Prop}{F:List (List Nat×List Nat)->List AV->gL->Prop}{ms:List iH}{acc:List (List Nat×List Nat)}{foot:List Nat}
 {x:Option α} {K:α->Option β} {r:β} {q:α->Prop}
theorem rC{dz:List D}{y:α->D}[i:gW x fun a=>iC P f dz (y a)](h:RV x K r)(hk:∀a,x=some a->K a=some r->q a)
 (e:∀a,R (iq d env (.d (y a))) s=q a:=by intro a;first|((conv=>lhs;simp(maxSteps:=1000000) (disch:=omega)only[go_sem,mq,mo,nj,nh,bP,bg,bw,Nat.reduceAdd,Nat.reduceSub,Nat.reduceLeDiff,Nat.reduceEqDiff,Nat.reduceLT,Int.reduceToNat,reduceIte,reduceCtorEq])<;>rfl)|rfl) (ha:ia (args.map fun x=>x.kY (oI [])) (dz.map .d):=by exact jF):kr P k0 f args env s d R:=
 let⟨a,h1,h2⟩:=bind_some h;Nf (i.c h1) ha ((e a).symm▸hk a h1 h2)
theorem TI{dz:List D}{y:α->List D}[i:gW x fun a=>pn P f dz (y a)](h:RV x K r)(hk:∀a,x=some a->K a=some r->q a)
 (e:∀a,R (iq d env (.nk ((y a).map .d))) s=q a:=by intro a;first|((conv=>lhs;simp(maxSteps:=1000000) (disch:=omega)only[go_sem,mq,mo,nj,nh,bP,bg,bw,Nat.reduceAdd,Nat.reduceSub,Nat.reduceLeDiff,Nat.reduceEqDiff,Nat.reduceLT,Int.reduceToNat,reduceIte,reduceCtorEq])<;>rfl)|rfl) (ha:ia (args.map fun x=>x.kY (oI [])) (dz.map .d):=by exact jF):kr P k0 f args env s d R:=
 let⟨a,h1,h2⟩:=bind_some h;K5 (i.c h1) ha ((e a).symm▸hk a h1 h2)
theorem dC{dz:List D}{y:α->D}[i:gW x fun a=>iC P f dz (y a)](h:RV x K r)(hk:∀a,x=some a->K a=some r->q a)
 (e:∀a,uc P k0 F ms ((foot,[])::acc) (iq d env (.d (y a))) s=q a:=by intro a;first|((conv=>lhs;simp(maxSteps:=1000000) (disch:=omega)only[go_sem,mq,mo,nj,nh,bP,bg,bw,Nat.reduceAdd,Nat.reduceSub,Nat.reduceLeDiff,Nat.reduceEqDiff,Nat.reduceLT,Int.reduceToNat,reduceIte,reduceCtorEq])<;>rfl)|rfl) (ha:ia (args.map fun x=>x.kY (oI [])) (dz.map .d):=by exact jF):lq P k0 F ms acc foot d env s f args:=
 let⟨a,h1,h2⟩:=bind_some h;Nd (i.c h1) ha ((e a).symm▸hk a h1 h2)
theorem Uo{dz:List D}{y:α->List D}[i:gW x fun a=>pn P f dz (y a)](h:RV x K r)(hk:∀a,x=some a->K a=some r->q a)
 (e:∀a,uc P k0 F ms ((foot,[])::acc) (iq d env (.nk ((y a).map .d))) s=q a:=by intro a;first|((conv=>lhs;simp(maxSteps:=1000000) (disch:=omega)only[go_sem,mq,mo,nj,nh,bP,bg,bw,Nat.reduceAdd,Nat.reduceSub,Nat.reduceLeDiff,Nat.reduceEqDiff,Nat.reduceLT,Int.reduceToNat,reduceIte,reduceCtorEq])<;>rfl)|rfl) (ha:ia (args.map fun x=>x.kY (oI [])) (dz.map .d):=by exact jF):lq P k0 F ms acc foot d env s f args:=
 let⟨a,h1,h2⟩:=bind_some h;K4 (i.c h1) ha ((e a).symm▸hk a h1 h2)
theorem lM(pr nw:List fU){dz:List AV}{s1:gL}{t:α->gL}{y:α->AV}[i:gW x fun a=>gN P f dz s1 pr.length fun x s'=>x=y a/\s'=t a](h:RV x K r)(hk:∀a,x=some a->K a=some r->q a)
 (e:∀a,R (iq d env ((y a).kY (nJ (pr++nw)))) (tj s (t a) (pr++nw) (pr++nw))=q a:=by intro a;first|((conv=>lhs;simp(maxSteps:=1000000) (disch:=omega)only[go_sem,mq,mo,nj,nh,bP,bg,bw,Nat.reduceAdd,Nat.reduceSub,Nat.reduceLeDiff,Nat.reduceEqDiff,Nat.reduceLT,Int.reduceToNat,reduceIte,reduceCtorEq])<;>rfl)|rfl)
 (h1:pr.map (·.1)=List.range pr.length:=by rfl) (h2:((pr++nw).map (·.1)).Nodup:=by decide) (h3:((pr++nw).map (·.2)).Nodup:=by decide)
 (h4:∀p∈nw,sat s p.2=.dead/\k0<=p.2:=by simp[sat]) (ha:ia (args.map fun x=>x.kY (oI pr)) dz:=by exact jF) (hs:jN (nD s pr pr) s1:=by exact jF):kr P k0 f args env s d R:=
 let⟨a,g1,g2⟩:=bind_some h;Qx pr nw (i.c g1) h1 h2 h3 h4 ha hs ((e a).symm▸hk a g1 g2)
theorem xN(pr nw:List fU){dz:List AV}{s1:gL}{t:α->gL}{y:α->AV}[i:gW x fun a=>gN P f dz s1 pr.length fun x s'=>x=y a/\s'=t a](h:RV x K r)(hk:∀a,x=some a->K a=some r->q a)
 (e:∀a,uc P k0 F ms (((pr++nw).map (·.2)++foot,(Hp (t a) (pr++nw) (pr++nw)).map (·.1))::acc) (iq d env ((y a).kY (nJ (pr++nw)))) (qL s (Hp (t a) (pr++nw) (pr++nw)))=q a:=by intro a;first|((conv=>lhs;simp(maxSteps:=1000000) (disch:=omega)only[go_sem,mq,mo,nj,nh,bP,bg,bw,Nat.reduceAdd,Nat.reduceSub,Nat.reduceLeDiff,Nat.reduceEqDiff,Nat.reduceLT,Int.reduceToNat,reduceIte,reduceCtorEq])<;>rfl)|rfl)
 (h1:pr.map (·.1)=List.range pr.length:=by rfl) (h2:((pr++nw).map (·.1)).Nodup:=by decide) (h3:((pr++nw).map (·.2)).Nodup:=by decide)
 (h4:∀p∈nw,sat s p.2=.dead/\k0<=p.2:=by simp[sat]) (ha:ia (args.map fun x=>x.kY (oI pr)) dz:=by exact jF) (hs:jN (nD s pr pr) s1:=by exact jF):lq P k0 F ms acc foot d env s f args:=
 let⟨a,g1,g2⟩:=bind_some h;Qw pr nw (i.c g1) h1 h2 h3 h4 ha hs ((e a).symm▸hk a g1 g2)
end
theorem mm{p:Prop}(h:p:=by repeat' first
 |refine i_ (by kernel_rfl) (g_ ?_)
 |refine tW gB (Eg ?_)
 |(with_reducible replace h:=toE h);subst h;first|(refine⟨_,rfl,gT.Xm ?_ ?_⟩<;>(first|(simp only[go_sem,gE,aQ,List.map_take,List.map_drop,aL,Nat.reduceAdd,Nat.reduceSub,Nat.reduceLeDiff,Nat.reduceEqDiff,Nat.reduceLT,reduceIte,reduceCtorEq];done)|((try simp only[go_sem,gE,aQ,List.map_take,List.map_drop,aL,Nat.reduceAdd,Nat.reduceSub,Nat.reduceLeDiff,Nat.reduceEqDiff,Nat.reduceLT,reduceIte,reduceCtorEq];repeat' (first|exact AV.le_refl _|refine And.intro ?_ ?_|refine AV.yY ?_|refine AV.wP ?_|refine AV.Ap ?_|refine AV.yc (DL.agg ?_)|exact Ut|exact EA|refine Us ?_ ?_|refine yE ?_ ?_|exact Uq|refine Up ?_ ?_|exact sQ (AV.yc DL.nil) _|exact D.le_refl _|exact ya|exact sM|refine x_ ?_|(simp only[go_sem,gE,aQ,List.map_take,List.map_drop,aL,Nat.reduceAdd,Nat.reduceSub,Nat.reduceLeDiff,Nat.reduceEqDiff,Nat.reduceLT,reduceIte,reduceCtorEq];done)|refine qu.append (qu.refl _) ?_|refine AV.uC ?_|refine AV.DH ?_|omega));done)))|(first|(simp only[go_sem,gE,aQ,List.map_take,List.map_drop,aL,Nat.reduceAdd,Nat.reduceSub,Nat.reduceLeDiff,Nat.reduceEqDiff,Nat.reduceLT,reduceIte,reduceCtorEq];done)|((try simp only[go_sem,gE,aQ,List.map_take,List.map_drop,aL,Nat.reduceAdd,Nat.reduceSub,Nat.reduceLeDiff,Nat.reduceEqDiff,Nat.reduceLT,reduceIte,reduceCtorEq];repeat' (first|exact AV.le_refl _|refine And.intro ?_ ?_|refine AV.yY ?_|refine AV.wP ?_|refine AV.Ap ?_|refine AV.yc (DL.agg ?_)|exact Ut|exact EA|refine Us ?_ ?_|refine yE ?_ ?_|exact Uq|refine Up ?_ ?_|exact sQ (AV.yc DL.nil) _|exact D.le_refl _|exact ya|exact sM|refine x_ ?_|(simp only[go_sem,gE,aQ,List.map_take,List.map_drop,aL,Nat.reduceAdd,Nat.reduceSub,Nat.reduceLeDiff,Nat.reduceEqDiff,Nat.reduceLT,reduceIte,reduceCtorEq];done)|refine qu.append (qu.refl _) ?_|refine AV.uC ?_|refine AV.DH ?_|omega));done))|(refine⟨[],by simp,?_,?_⟩<;>(first|(simp only[go_sem,gE,aQ,List.map_take,List.map_drop,aL,Nat.reduceAdd,Nat.reduceSub,Nat.reduceLeDiff,Nat.reduceEqDiff,Nat.reduceLT,reduceIte,reduceCtorEq];done)|((try simp only[go_sem,gE,aQ,List.map_take,List.map_drop,aL,Nat.reduceAdd,Nat.reduceSub,Nat.reduceLeDiff,Nat.reduceEqDiff,Nat.reduceLT,reduceIte,reduceCtorEq];repeat' (first|exact AV.le_refl _|refine And.intro ?_ ?_|refine AV.yY ?_|refine AV.wP ?_|refine AV.Ap ?_|refine AV.yc (DL.agg ?_)|exact Ut|exact EA|refine Us ?_ ?_|refine yE ?_ ?_|exact Uq|refine Up ?_ ?_|exact sQ (AV.yc DL.nil) _|exact D.le_refl _|exact ya|exact sM|refine x_ ?_|(simp only[go_sem,gE,aQ,List.map_take,List.map_drop,aL,Nat.reduceAdd,Nat.reduceSub,Nat.reduceLeDiff,Nat.reduceEqDiff,Nat.reduceLT,reduceIte,reduceCtorEq];done)|refine qu.append (qu.refl _) ?_|refine AV.uC ?_|refine AV.DH ?_|omega));done)))
 |(with_reducible exact(toF h).elim)
 |(with_reducible replace h:=toI h);refine it h (fun hc h=>?_) (fun hc h=>?_)
 |(with_reducible replace h:=toN h);refine ndN h (fun hp h=>?_)
 |(with_reducible replace h:=toB h);first|refine rC h (fun r hr h=>?_)|refine TI h (fun r hr h=>?_)|refine dC h (fun r hr h=>?_)|refine Uo h (fun r hr h=>?_)
 |(with_reducible replace h:=gY h hb3)
 |(with_reducible replace h:=gY h hb2)
 |(with_reducible replace h:=gY h hb1)
 |(exfalso;simp only[ak,bS]at *;omega)):p:=h
theorem iT{α:Type}{c:Bool}{a b:Option α}{r:α}{p q1:Prop}(h:(if c=true then a else b)=some r)(k1:c=true->a=some r->q1)
 (e1:c=true->p=q1:=by intro hc;(try simp only[aj,ai,bB,aM,Nat.reduceAdd]at hc);first|((conv=>lhs;simp(maxSteps:=1000000) (disch:=omega)only[go_sem,mq,mo,nj,nh,bP,bg,bw,Nat.reduceAdd,Nat.reduceSub,Nat.reduceLeDiff,Nat.reduceEqDiff,Nat.reduceLT,Int.reduceToNat,reduceIte,reduceCtorEq,hc])<;>rfl)|rfl)
 (k2:c=false->b=some r->p:=by intro hc h;(try simp only[aj,ai,bB,aM,Nat.reduceAdd]at hc);refine O8 hc ?_;exact mm):p:=
 (DD h).elim (fun h=>(e1 h.1).symm▸k1 h.1 h.2) fun h=>k2 h.1 h.2
theorem iF{α:Type}{c:Bool}{a b:Option α}{r:α}{p q2:Prop}(h:(if c=true then a else b)=some r)(k2:c=false->b=some r->q2)
 (e2:c=false->p=q2:=by intro hc;(try simp only[aj,ai,bB,aM,Nat.reduceAdd]at hc);first|((conv=>lhs;simp(maxSteps:=1000000) (disch:=omega)only[go_sem,mq,mo,nj,nh,bP,bg,bw,Nat.reduceAdd,Nat.reduceSub,Nat.reduceLeDiff,Nat.reduceEqDiff,Nat.reduceLT,Int.reduceToNat,reduceIte,reduceCtorEq,hc])<;>rfl)|rfl)
 (k1:c=true->a=some r->p:=by intro hc h;(try simp only[aj,ai,bB,aM,Nat.reduceAdd]at hc);refine O8 hc ?_;exact mm):p:=
 (DD h).elim (fun h=>k1 h.1 h.2) fun h=>(e2 h.1).symm▸k2 h.1 h.2
theorem jk{P:Program}{k:Nat}{Q:Post}{env:List AV}{s:gL}{x:gH}{σ β:Type}{f:σ->Option (σ⊕β)}{s0:σ}{b:β}(hb:gK f s0=some b)
 (ws:List Nat) (vs:σ->List (Nat×AV)) (S:σ->gL)
 (round:∀p t,f p=some t->(∀b',t=.inr b'->b'=b)->pG P k x (Cy (fun env' s'=>∃p',t=.inl p'/\gT k env' s' (vw (sx env ws) (vs p')) (S p')) Q)
  (vw (sx env ws) (vs p)) (S p)) (hw:gT k env s (vw (sx env ws) (vs s0)) (S s0):=by(try dsimp only);exact wk):pG P k (.loop x) Q env s:=mO hb ws vs S hw round
def ZT:D->Bool
 |.lit _=>true
 |_=>false
def VV:D->Bool
 |.lit _=>true
 |.sl _ _ _=>true
 |_=>false
def YD:D->AV
 |.sl e nl xs=>.dp (.sl e nl xs)
 |x=>.d x
def Pb(ds:List D):List AV:=(ds.flatMap gJ).map YD
theorem mj{ρ:Nat->Option Nat}:∀{ds:List D},AV.iI ρ (Pb ds)=Pb ds:=fun{ds}=>by
 rw[ov];unfold Pb;rw[dh];refine b_ fun x _=>?_
 cases x<;>rfl
theorem D.FJ{O O':Own}{w:World}(h:∀b o,O' b o->O b o){x:D}{v:Value}(hx:D.ok O w x v):D.ok O' w x v:=D.kL (fun _ _ _ hc hn=>⟨hc,fun ho=>hn (h _ _ ho)⟩) x v hx
def yw(C:Ctx):Ctx:={O:=C.O,β:=fun _=>.no,s:=[],w:=C.w,k:=0}
theorem yw.inv{C:Ctx}(h:Inv C C.β C.s C.w):Inv (yw C) (yw C).β (yw C).s (yw C).w where
 size:=ay _
 io:=rfl
 keep:=fun _ _ _ h _=>h
 uy:=fun _ _ _=>rfl
 rH:=fun _ _ h=>.inl h
 vt:=fun id _ h=>.inl ⟨id,h⟩
 pl:=fun _ _=>.refl _
 low:=fun b o ho=>⟨(h.low b o ho).1,fun⟨id,hq⟩=>hq.elim⟩
 obs:=fun _=>rfl
 inj:=fun _ _ _ h=>h.elim
theorem yw.gP{C:Ctx}:(yw C).gP (yw C).β (yw C).s=C.O:=by
 funext b o;refine propext ⟨fun h=>h.elim id fun⟨_,h⟩=>h.elim,.inl⟩
class H7 {α:Type} (f:α->D):Prop where
 lit:∀x,ZT (f x)=true
class Cl {α:Type} (f:α->D):Prop where
 cl:∀x,∀c∈gJ (f x),VV c=true
instance:H7 iD:=⟨fun _=>rfl⟩
instance:H7 bD:=⟨fun _=>rfl⟩
instance:H7 sD:=⟨fun _=>rfl⟩
instance{k:IntKind}:H7 (kD k):=⟨fun _=>rfl⟩
instance:Cl iD:=⟨fun _ c h=>by simp only[iD,gJ,bh]at h;subst h;rfl⟩
instance:Cl bD:=⟨fun _ c h=>by simp only[bD,gJ,bh]at h;subst h;rfl⟩
instance:Cl sD:=⟨fun _ c h=>by simp only[sD,gJ,bh]at h;subst h;rfl⟩
instance{k:IntKind}:Cl (kD k):=⟨fun _ c h=>by simp only[kD,gJ,bh]at h;subst h;rfl⟩
instance{α:Type}{e:Nat}{f:α->D}:Cl (gE e f):=⟨fun _ c h=>by simp only[gE,gJ,bh]at h;subst h;rfl⟩
section
variable{α:Type}{f:α->D}{e n id:Nat}{s:gL}{xs ys:List α}
variable[Inhabited α]{i k:Nat}
end
attribute [go_sem] mj
def eD{α:Type}(f:α->D)(M:List (Lit×α)):List (Lit×D):=M.map fun p=>(p.1,f p.2)
section
variable{α:Type}{f:α->D}{M:List (Lit×α)}{kl:Lit}{x:α}
theorem Ur:eD f []=[]:=rfl
theorem QD:eD f ((kl,x)::M)=(kl,f x)::eD f M:=rfl
end
theorem Nk{id:Nat}:AV.cells (.mp id)=some [.mp id]:=rfl
theorem RH{id:Nat}{xs:List AV}:AV.rI (.mp id::xs)=none:=rfl
theorem IZ{v:Value}:IY (.lit v)=false:=rfl
theorem Lo{e:Nat}{nl:Option Bool}{xs:List D}:IY (.sl e nl xs)=false:=rfl
theorem I1{α:Type}{e:Nat}{f:α->D}{xs:List α}:IY (gE e f xs)=false:=rfl
attribute [go_sem] Ur QD Nk RH IZ Lo I1
section
variable{P:Program}{k:Nat}{Q:Post}{env:List AV}{s:gL}
end
theorem mf{P:Program}{f:Nat}{mc:gH}{n:Nat}{rs:List xo}{fn:Func}(h1:P.funcs[f]?=some fn)(h3:fn.ntmps=n)(h2:fn.body.bind (oJ P)=some mc.erase:=by kernel_rfl)
 (h4:fn.results.toList.mapM (zP P)=some rs:=by kernel_rfl):jT P f mc n rs:=⟨fn,h1,h2,h3,h4⟩
mutual
inductive vV(s:gL):AV->AV->Prop
 |d {x:AV} {a:D} (h:AV.le x (.d a)):vV s x (.d a)
 |iM {e id n:Nat} {ds:List D} (h:yI s id ds) (hx:(AV.kG e id n).oe id ds=.d (.sl e none ds)):vV s (.kG e id n) (.d (.sl e none ds))
 |ptr {id t:Nat} {cs:List AV} {ds:List D} (h:sat s id=.obj t cs) (hd:cs=ds.map .d):vV s (.ptr id 0) (.pv ds)
 |fn {f:Nat} {a b a' b':List AV} (h:sK s a a') (h':sK s b b'):vV s (.fn f a b) (.fn f a' b')
inductive sK(s:gL):List AV->List AV->Prop
 |nil:sK s [] []
 |cons {x y:AV} {xs ys:List AV} (h:vV s x y) (hs:sK s xs ys):sK s (x::xs) (y::ys)
end
theorem Rj{C:Ctx}{β:gU}{s:gL}{w:World}(h:Inv C β s w){b o:Nat}(ho:own β s b o):¬C.O b o:=fun hO=>by
 have hl:=h.low b o hO;rcases h.rH b o ho with h4|h4
 ·exact hl.2 h4
 ·omega
theorem TG{β:gU}{O:Own}{w:World}:∀{ds:List D}{vs:List Value},AV.hM β O w (ds.map .d) vs->D.hM O w ds vs\/∃v∈vs,one v=false
 |[],vs,h=>by simp only[dg,AV.hM]at h;exact .inl (by simpa[D.hM]using h)
 |d::ds,vs,h=>by
  simp only[aX,AV.hM,AV.ok]at h;obtain⟨v,r,rfl,h1,h2⟩:=h;cases hv:one v with
  |false=>exact .inr ⟨v,by simp,hv⟩
  |true=>
   rcases TG h2 with h3|⟨u,hu,h3⟩
   ·exact .inl (by simp only[D.hM];exact⟨v,r,rfl,hv,h1,h3⟩)
   ·exact .inr ⟨u,by simp[hu],h3⟩
mutual
theorem vV.ok{C:Ctx}{β:gU}{s:gL}{w:World}(h:Inv C β s w)(β':gU):∀{x y:AV}{v:Value},vV s x y->AV.ok β (C.gP β s) w x v->AV.ok β' C.O w y v
 |_,_,v,.d hl,hv=>by
  have:=hl _ _ _ _ hv;simp only[AV.ok]at this⊢;exact D.FJ (fun b o ho=>.inl ho) this
 |_,_,v,.iM (id:=id) hf hx,hv=>by
  have:=Am h hf _ _ hv;rw[hx]at this;simp only[AV.ok]at this⊢;exact D.FJ (fun b o ho=>.inl ho) this
 |_,_,v,.ptr (id:=id) (ds:=ds) hs hd,hv=>by
  have hob:=h.obs id;rw[hs]at hob;simp only[AV.ok]at hv⊢;obtain⟨b,h1,rfl⟩:=hv;obtain⟨b',vs,h2,h3,h4,pre,rest,h5,h6⟩:=hob;rw[h1]at h2;cases h2;rw[hd]at h6;have hb:∀o,¬C.O b o:=fun o=>Rj h ⟨id,by rw[hs];exact h1⟩
  refine⟨b,0,pre,rfl,fun j u hj=>⟨?_,hb _,h4 u (by rw[h5];exact bz _ (bQ hj))⟩,?_⟩
  ·have:vs.toList[j]?=some u:=by rw[h5,aU (aP.1 hj).1];exact hj
   simp only[World.cell?,h3,bk];simpa using this
  ·rcases TG h6 with h7|⟨u,hu,h7⟩
   ·have:∀{ds:List D}{vs:List Value},D.hM (C.gP β s) w ds vs->D.hM C.O w ds vs:=by
     intro ds;induction ds with
     |nil=>intro vs h;simpa[D.hM]using h
     |cons d ds ih=>
      intro vs h;simp only[D.hM]at h⊢;obtain⟨v,r,rfl,k1,k2,k3⟩:=h;exact⟨v,r,rfl,k1,D.FJ (fun b o ho=>.inl ho) k2,ih k3⟩
    exact this h7
   ·have:=h4 u (by rw[h5];exact bz _ hu);rw[h7]at this;cases this
 |_,_,v,.fn h1 h2,hv=>by
  simp only[AV.ok]at hv⊢;obtain⟨fs,cs,rfl,h3,h4⟩:=hv;exact⟨fs,cs,rfl,sK.hM h β' h1 h3,sK.hM h β' h2 h4⟩
theorem sK.hM{C:Ctx}{β:gU}{s:gL}{w:World}(h:Inv C β s w)(β':gU):∀{xs ys:List AV}{vs:List Value},sK s xs ys->AV.hM β (C.gP β s) w xs vs->AV.hM β' C.O w ys vs
 |_,_,vs,.nil,hv=>by simpa[AV.hM]using hv
 |_,_,vs,.cons hl hs,hv=>by
  simp only[AV.hM]at hv⊢;obtain⟨v,r,rfl,h2,h3⟩:=hv;exact⟨v,r,rfl,vV.ok h β' hl h2,sK.hM h β' hs h3⟩
end
theorem Iy{P:Program}{k0 f:Nat}{args env:List AV}{s:gL}{d:Option Nat}{R:List AV->gL->Prop}{dz:List AV}{u:Value}
 (hc:gN P f dz [] 0 fun x _=>x=.d (.lit u)) (hl:sK s args dz) (hk:R (iq d env (.d (.lit u))) s):kr P k0 f args env s d R:=fun C β a w vs hC hst hvs=>by
 have hi:=hst.inv;have hb:=yw.inv (Inv.here hi (K:=0));refine(hc (yw _) vs rfl rfl hb (by rw[yw.gP];exact sK.hM hi _ hl hvs)).mono ?_;rintro e w' ⟨v,x,β',s',rfl,hi',hx,rfl⟩;refine⟨v,.d (.lit u),β,env,s,rfl,hst.grow hi'.size hi'.io fun b hb=>hi'.uy b hb fun id hq=>hq.elim,?_,hk⟩;simp only[AV.ok,D.ok]at hx⊢;exact hx
theorem QZ{α:Type}{f:α->D}[H7 f](x:α):∃u,f x=.lit u:=by
 have h:=H7.lit (f:=f) x;cases hx:f x with
 |lit u=>exact⟨u,rfl⟩
 |_=>rw[hx]at h;cases h
theorem vV.ZM{α:Type}{f:α->D}{e:Nat}[yG f e]{s:gL}{id t n:Nat}{xs:List α}(h:sat s id=.iM t e n (h_ f xs))(hn:n=xs.length):vV s (.kG e id n) (.d (gE e f xs)):=by
 subst hn;have hf:yI s id (xs.map f):=yI.iM f xs h fun x=>yG.len x
 refine .iM hf ?_;have:=A3 (id:=id) (e:=e) (f:=f) (xs:=xs) (n:=xs.length) rfl;exact this
section
variable{α γ:Type}{P:Program}{k0 f:Nat}{args env:List AV}{s:gL}{d:Option Nat}{R:List AV->gL->Prop}{x:Option α}{β:Type}{K:α->Option β}{r:β}{q:α->Prop}
theorem TJ{enc:γ->D}[H7 enc]{g:α->γ}{dz:List AV}[i:gW x fun a=>gN P f dz [] 0 fun x s'=>x=.d (enc (g a))/\s'=[]](h:RV x K r)(hk:∀a,x=some a->K a=some r->q a)
 (hl:sK s args dz:=by repeat' (first|exact sK.nil|refine sK.cons ?_ ?_|refine vV.fn ?_ ?_|exact vV.ptr rfl rfl|exact vV.ZM rfl (by simp)|exact vV.d (AV.le_refl _)|refine vV.d ?_;exact jF))
 (e:∀a,R (iq d env (.d (enc (g a)))) s=q a:=by intro a;first|((conv=>lhs;simp(maxSteps:=1000000) (disch:=omega)only[go_sem,mq,mo,nj,nh,bP,bg,bw,Nat.reduceAdd,Nat.reduceSub,Nat.reduceLeDiff,Nat.reduceEqDiff,Nat.reduceLT,Int.reduceToNat,reduceIte,reduceCtorEq])<;>rfl)|rfl):kr P k0 f args env s d R:=by
 obtain⟨a,h1,h2⟩:=bind_some h;obtain⟨u,hu⟩:=QZ (f:=enc) (g a);have hc:=i.c h1;have he:=(e a).symm▸hk a h1 h2;rw[hu]at hc he;exact Iy (hc.mono fun _ _ ⟨h,_⟩=>⟨_,AV.le_refl _,h⟩) hl he
end
attribute [go_sem] List.set_cons_zero List.set_cons_succ
attribute [go_sem] ne_eq not_false_eq_true
section
variable{α γ:Type}[Inhabited α]{f:α->D}{f':γ->D}{e e' n k0:Nat}{s:gL}{env:List AV}{xs:List α}{y y':α}{ys:List γ}{i k:Nat}
end
attribute [go_sem] Sum.elim_inl Sum.elim_inr
section
variable{P:Program}{k0 f:Nat}{args env:List AV}{s:gL}{d:Option Nat}{R:List AV->gL->Prop}
end
section
variable{P:Program}{k:Nat}{Q:Post}{env:List AV}{s:gL}
end
section
variable{E:Ending->Value->Prop}{P:Program}{f:Nat}
end
section
variable{P:Program}{k:Nat}{Q:Post}{env:List AV}{s:gL}{K:List AV->gL->Prop}{pv:Value}
attribute [go_sem] okB
end
mutual
def AV.vN(id:Nat)(cs:List AV):AV->AV
 |.ptr j off=>if j=id then .pa (cs.drop off)else .ptr j off
 |.fn f a b=>.fn f (AV.vu id cs a) (AV.vu id cs b)
 |.pa xs=>.pa (AV.vu id cs xs)
 |.agg xs=>.agg (AV.vu id cs xs)
 |.nk xs=>.nk (AV.vu id cs xs)
 |.iB=>.iB
 |.d x=>.d x
 |.own e j xs=>AV.kY (gV id) (.own e j xs)
 |.nC e j off len=>AV.kY (gV id) (.nC e j off len)
 |.pv xs=>.pv xs
 |.kG e j n=>AV.kY (gV id) (.kG e j n)
 |.lT j k off=>AV.kY (gV id) (.lT j k off)
 |.BS e xs=>.BS e xs
 |.dp x=>.dp x
 |.mp j=>AV.kY (gV id) (.mp j)
def AV.vu(id:Nat)(cs:List AV):List AV->List AV
 |[]=>[]
 |x::xs=>AV.vN id cs x::AV.vu id cs xs
end
section
variable{β β':gU}{O O':Own}{w:World}{id:Nat}{cs:List AV}
mutual
theorem Oz(hp:∀off v,AV.ok β O w (.ptr id off) v->AV.ok β' O' w (.pa (cs.drop off)) v)(hk:∀x v,AV.ok β O w x v->AV.ok β' O' w (x.kY (gV id)) v)(hO:∀b o v,w.cell? ⟨b,o,none⟩=some v->¬O b o->¬O' b o):
 ∀(x:AV)(v:Value),AV.ok β O w x v->AV.ok β' O' w (x.vN id cs) v
 |.ptr j off,v,h=>by
  simp only[AV.vN];by_cases hj:j=id
  ·subst hj;rw[ah rfl];exact hp off v h
  ·rw[az hj];have:=hk _ _ h;simpa only[AV.kY,gV,az hj]using this
 |.fn f a b,v,h=>by
  simp only[AV.vN,AV.ok]at h⊢;obtain⟨fs,cs',rfl,h1,h2⟩:=h;exact⟨fs,cs',rfl,zR hp hk hO a _ h1,zR hp hk hO b _ h2⟩
 |.pa xs,v,h=>by
  simp only[AV.vN,AV.ok]at h⊢;obtain⟨b,o,vs,rfl,h1,h2⟩:=h;exact⟨b,o,vs,rfl,fun j u hj=>⟨(h1 j u hj).1,hO _ _ _ (h1 j u hj).1 (h1 j u hj).2.1,(h1 j u hj).2.2⟩,zR hp hk hO xs _ h2⟩
 |.agg xs,v,h=>by
  simp only[AV.vN,AV.ok]at h⊢;obtain⟨vs,rfl,h1,h2⟩:=h;exact⟨vs,rfl,h1,zR hp hk hO xs _ h2⟩
 |.nk xs,v,h=>by
  simp only[AV.vN,AV.ok]at h⊢;obtain⟨vs,rfl,h2⟩:=h;exact⟨vs,rfl,zR hp hk hO xs _ h2⟩
 |.iB,v,h=>by simp[AV.vN,AV.ok]
 |.d x,v,h=>by have:=hk _ _ h;simpa only[AV.kY,AV.vN]using this
 |.own e j xs,v,h=>by simp only[AV.vN];exact hk _ _ h
 |.nC e j off len,v,h=>by simp only[AV.vN];exact hk _ _ h
 |.pv xs,v,h=>by have:=hk _ _ h;simpa only[AV.kY,AV.vN]using this
 |.kG e j n,v,h=>by simp only[AV.vN];exact hk _ _ h
 |.lT j k off,v,h=>by simp only[AV.vN];exact hk _ _ h
 |.BS e xs,v,h=>by have:=hk _ _ h;simpa only[AV.kY,AV.vN]using this
 |.dp x,v,h=>by simp[AV.vN,AV.ok]
 |.mp j,v,h=>by simp only[AV.vN];exact hk _ _ h
theorem zR(hp:∀off v,AV.ok β O w (.ptr id off) v->AV.ok β' O' w (.pa (cs.drop off)) v)(hk:∀x v,AV.ok β O w x v->AV.ok β' O' w (x.kY (gV id)) v)(hO:∀b o v,w.cell? ⟨b,o,none⟩=some v->¬O b o->¬O' b o):
 ∀(xs:List AV)(vs:List Value),AV.hM β O w xs vs->AV.hM β' O' w (AV.vu id cs xs) vs
 |[],vs,h=>by simpa[AV.vu,AV.hM]using h
 |x::xs,vs,h=>by
  simp only[AV.vu,AV.hM]at h⊢;obtain⟨v,r,rfl,h1,h2⟩:=h;exact⟨v,r,rfl,Oz hp hk hO x v h1,zR hp hk hO xs r h2⟩
end
end
theorem gT.vN{k:Nat}{env:List AV}{s:gL}(id:Nat){t:Nat}{cs:List AV}(hid:k<=id)(ho:sat s id=.obj t cs):gT k env s (env.map (AV.vN id (AV.iI (gV id) cs))) (iL id s):=fun C β a w hC hst=>by
 subst hC;have hi:=hst.inv;have hob:=hi.obs id;rw[ho]at hob;obtain⟨b,us,hb,hh,hone,pre,rst,hus,hpre⟩:=hob;have h2:=hi.kill id hid;have hblk:gF β s id b:=by unfold gF;rw[ho];exact hb
 have hnot:∀o,¬C.gP (gM β id .no) (iL id s) b o:=fun o hq=>by
  rcases hq with hq|hq
  ·have h1:=hi.low b o hq;have hown:own β s b o:=⟨id,by rw[ho];exact hb⟩;rcases hi.rH b o hown with h3|h3
   ·exact h1.2 h3
   ·omega
  ·obtain⟨j,hj⟩:=hq.block;have hj1:=vH hj;have hji:j≠id:=fun e=>by subst e;unfold gF at hj;rw[tg,ah rfl]at hj;exact hj
   exact hji (hi.inj j id b hj1 hblk)
 have hpre2:=DF (C:=C) (s:=s) (id:=id) hpre;refine⟨_,hst.defers,h2,by rw[aM];exact hst.len,fun i x hx=>?_⟩;rw[bq]at hx;obtain⟨y,hy,rfl⟩:=aF.1 hx;refine Oz (β:=β) (O:=C.gP β s) (fun off v hv=>?_) (fun x v h=>wO h) (fun b o v _ hn h=>hn (h.imp (fun x=>x) wj)) y _ (hst.env i y hy);simp only[AV.ok]at hv;obtain⟨b2,hb2,rfl⟩:=hv;rw[hb]at hb2;cases hb2;simp only[AV.ok];refine⟨b,off,pre.drop off,rfl,fun q u hq=>?_,ze off hpre2⟩;rw[cF]at hq;have hq2:us.toList[off+q]?=some u:=by rw[hus,aU (aP.1 hq).1];exact hq
 refine⟨?_,hnot _,hone u (bQ hq2)⟩;simp only[World.cell?,hh,cE,au,aG];simpa using hq2
section
variable{id:Nat}{cs:List AV}
theorem Oy:AV.vN id cs .iB=.iB:=by simp only[AV.vN]
theorem Yj{x:D}:AV.vN id cs (.d x)=.d x:=by simp only[AV.vN]
theorem UZ{xs:List D}:AV.vN id cs (.pv xs)=.pv xs:=by simp only[AV.vN]
theorem Rk{j off:Nat}:AV.vN id cs (.ptr j off)=if j=id then .pa (cs.drop off)else .ptr j off:=by simp only[AV.vN]
theorem Rl{xs:List AV}:AV.vN id cs (.nk xs)=.nk (AV.vu id cs xs):=by simp only[AV.vN]
theorem UX{f:Nat}{a b:List AV}:AV.vN id cs (.fn f a b)=.fn f (AV.vu id cs a) (AV.vu id cs b):=by simp only[AV.vN]
theorem UY{xs:List AV}:AV.vN id cs (.pa xs)=.pa (AV.vu id cs xs):=by simp only[AV.vN]
theorem OA:AV.vu id cs []=[]:=rfl
theorem LN{x:AV}{xs:List AV}:AV.vu id cs (x::xs)=AV.vN id cs x::AV.vu id cs xs:=by simp only[AV.vu]
end
attribute [go_sem] Oy Yj UZ Rk Rl UX UY OA LN iL
theorem G5{P:Program}{ρ:Go.Shelf.Ren}(L:Go.Proofs.Lays8.n4 P ρ){i0:TypeInfo}{z:Value}(hi0:P.info? (ρ.t 25)=some i0)(hz0:i0.zero=some z)(hs0:0<i0.size)(hb0:0<i0.bytes)
 (hz1:z.cells.size=i0.size) (hz2:∀v∈z.cells.toList,one v=true) {n:Int} (h0:0<=n) (hb:n*i0.bytes<=140737488355328):
 gN P (ρ.f 4) [.d (.sl 0 (some true) []),.d (iD n)] [] 0 fun x s'=>x=.own i0.size 0 []/\s'=[(0,.tok (ρ.t 25) i0.size 0)]:=fun C vs hs hk hinv hargs=>by
 obtain⟨m,rfl⟩:=Int.eq_ofNat_of_zero_le h0;have hst:St C C.β [] C.s {tmps:=#[],defers:=[]} C.w:=⟨.nil,hinv,rfl,fun i x hx=>by simp at hx⟩;have hvs:vs=#[.slice none 0 0,.int .i64 m]:=by
  simp only[AV.hM,AV.ok]at hargs;obtain⟨v,r,h1,h2,v2,r2,h3,h4,h5⟩:=hargs;have h2:=Jd h2;have h4:=qH (β:=C.β) (O:=C.gP C.β C.s) (w:=C.w) (by simp only[AV.ok];exact h4);subst h2 h4 h5 h3;exact cC (by simpa[wg]using h1)
 subst hvs;have hd:sat C.s 0=.dead:=by rw[hs];rfl
 rcases fA m with rfl|hm
 ·refine(Go.Proofs.Any8.slices_Grow_room L none 0 0 0 C.w (ay _) gB gB gB).mono ?_;rintro e w' ⟨rfl,rfl⟩;obtain⟨h1,_⟩:=hst.Jw (id:=0) (t:=ρ.t 25) (e:=i0.size) hd;rw[hs]at h1;exact⟨_,.own i0.size 0 [],_,_,rfl,h1.inv,FN (by simp[gM]),rfl,rfl⟩
 ·have hmb:m*i0.bytes<=140737488355328:=by
   have:((m*i0.bytes:Nat):Int)<=140737488355328:=by simpa using hb
   omega
  have hm47:m<=140737488355328:=bN (cL _ hb0) hmb;refine(Go.Proofs.Any8.slices_Grow_grow L i0 z hi0 hz0 hs0 none 0 0 m [] C.w (ay _) gB (by simpa using hmb) gB (by simp) (by simp) (by simp)).mono ?_;rintro e w' ⟨rfl,rfl⟩;have hcap1:=grownCap_ge C.w (0+m) 0 (ρ.t 25);have hcap2:=eE C.w (0+m) 0 (ρ.t 25) (by unfold Go.maxLen;omega);obtain⟨β',h1,h2⟩:=yj hst.drew (id:=0) (t:=ρ.t 25) (e:=i0.size) (n:=0) (cap:=grownCap C.w (0+m) 0 (ρ.t 25))
   (c:=([]:List Value).toArray++Builtin.zeroCells z.cells (0+m-0)++Builtin.zeroCells z.cells (grownCap C.w (0+m) 0 (ρ.t 25)-(0+m))) (xs:=[])
   (by have:=hst.inv.obs 0;rw[hd]at this;rw[show C.β 0=.no from this];trivial)
   (by
    rw[dK,dK,fk,fk,hz1];simp only[di,bB,bk,Nat.sub_zero];rw[<-bH];congr 1;simp only[bk]at hcap1;omega)
   (dS _) (by unfold Go.maxLen at hcap2;omega)
   (fun v hv=>by
    simp only[Array.toList_append,aI]at hv;rcases hv with(hv|hv)|hv
    ·simp at hv
    ·exact sd hz2 _ v hv
    ·exact sd hz2 _ v hv)
   rfl (fun _ _ _ _=>by simp[D.row])
  rw[hs]at h1 h2;exact⟨_,.own i0.size 0 [],β',_,rfl,h1.inv,h2,rfl,rfl⟩
end kI
