/- A part of the proof about FnAcMatches (LaShal, LaLend, LaDeep, LaSplit, LaThaw, LaPak, Grow). -/
import Derived.Test.YthdnkoejpdcnpaaGreatMab
import Derived.KernelRfl
import Derived.Shelf.Spec.SlicesGrow
set_option linter.all false
noncomputable section
namespace kJ
open Go
def DL(x y:D):Prop:=∀O w v,D.ok O w x v->D.ok O w y v
def Q6:List D->List D->Prop
 |[],[]=>True
 |x::xs,y::ys=>DL x y/\Q6 xs ys
 |_,_=>False
theorem DL.forget{e:Nat}{nl:Option Bool}{xs:List D}:DL (.sl e nl xs) (.sl e none xs):=fun _ _ _ h=>by
 simp only[D.ok]at h⊢;obtain⟨a,cap,h1,h2,_,h4⟩:=h;exact⟨a,cap,h1,h2,trivial,h4⟩
theorem DL.nil{e e':Nat}{nl:Option Bool}:DL (.sl e nl []) (.sl e' none []):=fun _ _ _ h=>by
 simp only[D.ok]at h⊢;obtain⟨a,cap,h1,h2,_,h4⟩:=h;exact⟨a,cap,h1,h2,trivial,by simp⟩
theorem Q6.gO{O:Own}{w:World}:∀{xs ys:List D}{vs:List Value},Q6 xs ys->D.gO O w xs vs->D.gO O w ys vs
 |[],[],_,_,h=>h
 |_::_,_::_,_,hl,h=>by
  simp only[D.gO]at h⊢;obtain⟨v,r,h1,h2,h3,h4⟩:=h;exact⟨v,r,h1,h2,hl.1 _ _ _ h3,Q6.gO hl.2 h4⟩
 |[],_::_,_,hl,_=>hl.elim
 |_::_,[],_,hl,_=>hl.elim
theorem DL.agg{xs ys:List D}(h:Q6 xs ys):DL (.agg xs) (.agg ys):=fun _ _ _ hv=>by
 simp only[D.ok]at hv⊢;obtain⟨vs,h1,h2⟩:=hv;exact⟨vs,h1,h.gO h2⟩
theorem AV.vT{x y:D}(h:DL x y):AV.le (.d x) (.d y):=fun _ _ _ _ hv=>by simp only[AV.ok]at hv⊢;exact h _ _ _ hv
theorem AV.Ou{e id:Nat}{xs:List D}{y:D}(h:DL (.sl e none xs) y):AV.le (.own e id xs) (.d y):=fun _ _ _ _ hv=>by simp only[AV.ok]at hv⊢;exact h _ _ _ hv.1
theorem AV.yx{xs ys:List AV}(h:gV xs ys):AV.le (.agg xs) (.agg ys):=fun _ _ _ _ hv=>by
 simp only[AV.ok]at hv⊢;obtain⟨vs,h1,h2,h3⟩:=hv;exact⟨vs,h1,h2,h.gO h3⟩
theorem zn{β:gI}{O:Own}{w:World}:∀{ys:List D}{vs:List Value},(∀u∈vs,one u=true)->AV.gO β O w (ys.map .d) vs->D.gO O w ys vs
 |[],_,_,h=>by simpa[AV.gO,D.gO]using h
 |y::ys,vs,h1,h=>by
  simp only[aZ,AV.gO,D.gO]at h⊢;obtain⟨v,r,rfl,h2,h3⟩:=h;exact⟨v,r,rfl,h1 v (by simp),by simpa[AV.ok]using h2,zn (fun u hu=>h1 u (by simp[hu])) h3⟩
theorem AV.uR{xs:List AV}{ys:List D}(h:gV xs (ys.map .d)):AV.le (.agg xs) (.d (.agg ys)):=fun _ _ _ _ hv=>by
 simp only[AV.ok,D.ok]at hv⊢;obtain⟨vs,h1,h2,h3⟩:=hv;exact⟨vs,h1,zn h2 (h.gO h3)⟩
theorem AV.wY{xs ys:List AV}(h:gV xs ys):AV.le (.l_ xs) (.l_ ys):=fun _ _ _ _ hv=>by
 simp only[AV.ok]at hv⊢;obtain⟨vs,h1,h3⟩:=hv;exact⟨vs,h1,h.gO h3⟩
theorem GJ{e e':Nat}{nl:Option Bool}:AV.le (.d (.sl e nl [])) (.d (.sl e' none []))<->True:=⟨fun _=>trivial,fun _=>AV.vT DL.nil⟩
theorem FU{e e':Nat}{nl:Option Bool}:DL (.sl e nl []) (.sl e' none [])<->True:=⟨fun _=>trivial,fun _=>DL.nil⟩
theorem Jy{xs:List AV}{ys:List D}(h:gV xs (ys.map .d)):AV.le (.agg xs) (.d (.agg ys))<->True:=⟨fun _=>trivial,fun _=>AV.uR h⟩
theorem Lz{xs ys:List AV}(h:gV xs ys):AV.le (.l_ xs) (.l_ ys)<->True:=⟨fun _=>trivial,fun _=>AV.wY h⟩
def Vx(x y:AV):Prop:=x=y\/((∀d,x≠ .dp d)/\(∀d,y≠ .dp d)/\AV.le x y)\/∃e0 e,x=.d (.sl e0 (some true) [])/\y=.dp (.sl e none [])
def yM:List AV->List AV->Prop
 |[],[]=>True
 |x::xs,y::ys=>Vx x y/\yM xs ys
 |_,_=>False
theorem yM.refl:∀xs:List AV,yM xs xs
 |[]=>trivial
 |x::xs=>⟨.inl rfl,yM.refl xs⟩
theorem yM.length:∀{xs ys:List AV},yM xs ys->xs.length=ys.length
 |[],[]=>fun _=>rfl
 |x::xs,y::ys=>fun h=>by simp[yM.length h.2]
 |[],_::_=>fun h=>h.elim
 |_::_,[]=>fun h=>h.elim
theorem Vx.nx{β:gI}{O:Own}{w:World}{x y:AV}{v:Value}{bs:List Nat}(h:Vx x y)(hx:NX β O w x v bs):NX β O w y v bs:=by
 rcases h with rfl|⟨h1,h2,h3⟩|⟨e0,e,rfl,rfl⟩
 ·exact hx
 ·exact hx.imp (x':=y) (fun _ _=>rfl) (.inr ⟨h1,h2,h3 _ _ _ _⟩)
 ·obtain⟨h1,h2⟩:=hx;have h1:AV.ok β O w (.d (.sl e0 (some true) [])) v:=h1;simp only[AV.ok,D.ok]at h1;obtain⟨a,cap,h3,h4,⟨rfl,rfl⟩,_⟩:=h1;show NV w (.sl e none []) v bs;simp only[NV];exact⟨none,0,h3,h4,trivial,.inl ⟨rfl,trivial,h2⟩⟩
theorem yM.WE{β:gI}{O:Own}{w:World}:∀{xs ys:List AV}{vs:List Value}{bs:List Nat},yM xs ys->tD β O w xs vs bs->tD β O w ys vs bs
 |[],[]=>fun _ h=>h
 |x::xs,y::ys=>fun hl h=>by
  simp only[tD]at h⊢;obtain⟨v,r,b1,b2,h1,h2,h3,h4⟩:=h;exact⟨v,r,b1,b2,h1,h2,hl.1.nx h3,yM.WE hl.2 h4⟩
 |[],_::_=>fun h=>h.elim
 |_::_,[]=>fun h=>h.elim
def M5:List (Lit×D)->List (Lit×D)->Prop
 |[],[]=>True
 |(k,x)::r,(k',y)::r'=>k=k'/\AV.le (.d x) (.d y)/\M5 r r'
 |_,_=>False
theorem M5.refl:∀es:List (Lit×D),M5 es es
 |[]=>trivial
 |(_,_)::r=>⟨rfl,fun _ _ _ _ h=>h,M5.refl r⟩
theorem M5.get{kl:Lit}:∀{es es':List (Lit×D)},M5 es es'->(wB es kl=none/\wB es' kl=none)\/∃x y,wB es kl=some x/\wB es' kl=some y/\AV.le (.d x) (.d y)
 |[],[],_=>.inl ⟨rfl,rfl⟩
 |(k,x)::r,(k',y)::r',h=>by
  obtain⟨rfl,h1,h2⟩:=h;unfold wB;by_cases hk:k=kl
  ·simp only[hk,aO];exact .inr ⟨x,y,rfl,rfl,h1⟩
  ·simp only[hk,aI];exact h2.get
 |[],_::_,h=>h.elim
 |_::_,[],h=>h.elim
theorem M5.ok{O:Own}{w:World}{P:Program}{k b:Nat}{es es':List (Lit×D)}(h:M5 es es')(hm:yL O w P k es b):yL O w P k es' b:=by
 obtain⟨E,h1,h2⟩:=hm;refine⟨E,h1,fun kl=>?_⟩;have h3:=h2 kl;rcases h.get (kl:=kl)with⟨e1,e2⟩|⟨x,y,e1,e2,e3⟩
 ·rw[e1]at h3;rw[e2];exact h3
 ·rw[e1]at h3;rw[e2];obtain⟨v,k1,k2,k3⟩:=h3;exact⟨v,k1,k2,by have:=e3 (fun _=>.no) O w v (by simpa only[AV.ok]using k3);simpa only[AV.ok]using this⟩
def vI:Ob->Ob->Prop
 |.dead,.dead=>True
 |.obj t cs,.obj t' cs'=>t=t'/\gV cs cs'
 |.tok t e n,.tok t' e' n'=>t=t'/\e=e'/\n=n'
 |.ij t e n cs,.ij t' e' n' cs'=>t=t'/\e=e'/\n=n'/\gV (cs.map .d) (cs'.map .d)
 |.oh t e n cs,.oh t' e' n' cs'=>t=t'/\e=e'/\n=n'/\yM cs cs'
 |.tc e n cs,.tc e' n' cs'=>e=e'/\n=n'/\yM cs cs'
 |.mp P k es,.mp P' k' es'=>P=P'/\k=k'/\M5 es es'
 |_,_=>False
def ki:gA->gA->Prop
 |[],[]=>True
 |(i,x)::r,(j,y)::r'=>i=j/\vI x y/\ki r r'
 |_,_=>False
theorem ki.sat:∀{s s':gA},ki s s'->∀id,vI (kJ.sat s id) (kJ.sat s' id)
 |[],[],_,_=>trivial
 |(i,x)::r,(j,y)::r',h,id=>by
  obtain⟨rfl,h1,h2⟩:=h;simp only[kJ.sat];split
  ·exact h1
  ·exact h2.sat id
 |[],_::_,h,_=>h.elim
 |_::_,[],h,_=>h.elim
theorem gV.N6{O:Own}{w:World}:∀{xs ys:List D}{vs:List Value},gV (xs.map .d) (ys.map .d)->D.gO O w xs vs->D.gO O w ys vs
 |[],[],_,_,h=>h
 |x::xs,y::ys,_,hl,h=>by
  simp only[D.gO]at h⊢;obtain⟨v,r,h1,h0,h2,h3⟩:=h;refine⟨v,r,h1,h0,?_,gV.N6 hl.2 h3⟩;have:=hl.1 (fun _=>.no) O w v (by simpa only[AV.ok]using h2);simpa only[AV.ok]using this
 |[],_::_,_,hl,_=>hl.elim
 |_::_,[],_,hl,_=>hl.elim
theorem gV.length':∀{xs ys:List D},gV (xs.map .d) (ys.map .d)->xs.length=ys.length
 |[],[],_=>rfl
 |x::xs,y::ys,hl=>by simp[gV.length' hl.2]
 |[],_::_,hl=>hl.elim
 |_::_,[],hl=>hl.elim
theorem Inv.told{C:Ctx}{β:gI}{s s':gA}{w:World}(h:Inv C β s w)(hs:∀id,vI (sat s id) (sat s' id)):Inv C β s' w/\C.gD β s'=C.gD β s:=by
 have hown:∀b x,own β s' b x<->own β s b x:=fun b x=>by
  unfold own;refine exists_congr fun id=>?_
  have:=hs id;revert this;cases sat s id<;>cases sat s' id<;>intro h1<;>first|exact h1.elim|exact cE|skip
  ·obtain⟨_,rfl,rfl⟩:=h1;exact cE
  ·obtain⟨_,rfl,rfl,_⟩:=h1;exact cE
  ·obtain⟨_,rfl,rfl,_⟩:=h1;exact cE
  ·obtain⟨rfl,rfl,_⟩:=h1;exact cE
 have hblk:∀id b,gw β s' id b<->gw β s id b:=fun id b=>by
  unfold gw;have:=hs id;revert this;cases sat s id<;>cases sat s' id<;>intro h1<;>first|exact h1.elim|exact cE|skip
  ·obtain⟨_,rfl,rfl⟩:=h1;exact cE
  ·obtain⟨_,rfl,rfl,_⟩:=h1;exact cE
  ·obtain⟨_,rfl,rfl,_⟩:=h1;exact cE
  ·obtain⟨rfl,rfl,_⟩:=h1;exact cE
 have hf:C.gD β s'=C.gD β s:=by funext b o;exact propext (or_congr cE (hown b o))
 refine⟨⟨h.size,h.io,h.keep,h.sk,fun b o ho=>h.qb b o ((hown b o).1 ho),fun id b hb=>h.tH id b ((hblk id b).1 hb),h.pl,h.low,fun id=>?_,
  fun i j b hi hj=>h.inj i j b ((hblk i b).1 hi) ((hblk j b).1 hj)⟩,hf⟩
 rw[hf];have h1:=h.obs id;have h2:=hs id;revert h1 h2;cases sat s id<;>cases sat s' id<;>intro h1 h2<;>first|exact h2.elim|exact h1|skip
 ·obtain⟨rfl,h2⟩:=h2;obtain⟨b,vs,h3,h4,h5,h6⟩:=h1;exact⟨b,vs,h3,h4,h5,h6.imp fun _ h=>h2.gO h⟩
 ·obtain⟨rfl,rfl,rfl⟩:=h2;exact h1
 ·obtain⟨rfl,rfl,rfl,h2⟩:=h2;obtain⟨u,h3,h4,h5⟩:=h1;refine⟨u,h3,h2.length'▸h4,?_⟩;rcases h5 with h5|⟨b,cap,vs,k1,k2,k3,k4,k5,k6,pre,rest,k7,k8⟩
  ·exact .inl h5
  ·exact .inr ⟨b,cap,vs,k1,k2,k3,k4,k5,k6,pre,rest,k7,h2.N6 k8⟩
 ·obtain⟨rfl,rfl,rfl,h2⟩:=h2;obtain⟨u,bs,h3,h4,h5,h6⟩:=h1;refine⟨u,bs,h3,h4,h2.length▸h5,?_⟩;rcases h6 with h6|⟨b,cap,vs,k1,k2,k3,k4,k5,k6,k7,k8⟩
  ·exact .inl h6
  ·exact .inr ⟨b,cap,vs,k1,k2,k3,k4,k5,k6,k7,h2.WE k8⟩
 ·obtain⟨rfl,rfl,h2⟩:=h2;obtain⟨u,bs,h3,h4,h5,h6⟩:=h1;refine⟨u,bs,h3,h4,h2.length▸h5,?_⟩;rcases h6 with h6|⟨b,cap,vs,t,k1,k2,k3,k4,k5,k6,k9,k7,k8⟩
  ·exact .inl h6
  ·exact .inr ⟨b,cap,vs,t,k1,k2,k3,k4,k5,k6,k9,k7,h2.WE k8⟩
 ·obtain⟨rfl,rfl,h2⟩:=h2;obtain⟨b,h3,h4⟩:=h1;exact⟨b,h3,h2.ok h4⟩
theorem gM.Ud{k:Nat}{env env':List AV}{s s':gA}(h:gV env env')(hs:ki s s'):gM k env s env' s':=fun C β a w hC hst=>by
 obtain⟨h1,hf⟩:=hst.inv.told hs.sat;obtain⟨h3,h4⟩:=h.get;exact⟨β,hst.defers,h1,by rw[hst.len,h3],fun i y hy=>by rw[hf];exact let⟨x,hx,hle⟩:=h4 i y hy;hle _ _ _ _ (hst.env i x hx)⟩
def uB(id:Nat):gA->gA
 |[]=>[]
 |(j,x)::r=>if j=id then uB id r else(j,x.kill id)::uB id r
theorem zB(id j:Nat):∀s:gA,sat (uB id s) j=sat (ig id s) j
 |[]=>rfl
 |(i,x)::r=>by
  simp only[uB,ig];by_cases h:i=id
  ·subst h;simp only[aO,sat,zB i j r];split
   ·rename_i h2;subst h2;rw[qV];simp
   ·rfl
  ·simp only[h,aI,sat,zB id j r]
theorem gM.drop{k:Nat}{env:List AV}{s:gA}(id:Nat)(hid:k<=id):gM k env s (AV.ia (gJ id) env) (uB id s):=
 (gM.kill id hid).trans (gM.SQ fun j=>(zB id j s).symm)
theorem oZ.mono{P:Program}{k:Nat}{mc:gB}{Q Q':Post}{env:List AV}{s:gA}(h:oZ P k mc Q env s)(hq:∀e env s,Q e env s->Q' e env s):oZ P k mc Q' env s:=
 fun C hC hf c hc β a w hst=>fk (h C hC hf c hc β a w hst) fun e _ _ ⟨C',hx,β',env',s',h1,h2⟩=>⟨C',hx,β',env',s',h1,hq e env' s' h2⟩
def sG(P:Program)(k:Nat):gB->Post->List AV->gA->Prop
 |.skip,Q,env,s=>Q .normal env s
 |.gv ms,Q,env,s=>ud P k (Q .normal) ms env s
 |.draw ms af,Q,env,s=>P.follows .mixedOrders=true/\tP P k (ym ms af Q) ms [] env s
 |.seq a b,Q,env,s=>sG P k a (AJ (fun env s=>sG P k b Q env s) Q) env s
 |.cond o a b,Q,env,s=>match ev env o with
  |.d (.lit (.bool t))=>if t=true then sG P k a Q env s else sG P k b Q env s
  |_=>False
 |.block id a,Q,env,s=>sG P k a (Bl id Q) env s
 |.loop x,Q,env,s=>oZ P k (.loop x) Q env s
 |.exit id,Q,env,s=>Q (.exit id) env s
 |.ret,Q,env,s=>Q .ret env s
 |.dead,_,_,_=>False
 |.ghost x,Q,env,s=>∃env' s',gM k env s env' s'/\oZ P k x Q env' s'
 |.Sa g ps a b,Q,env,s=>oZ P k (.Sa g ps a b) Q env s
 |.scope a,Q,env,s=>sG P k a (QI Q) env s
 |.label,Q,env,s=>Q .normal env s
theorem gr{P:Program}{k:Nat}:∀{mc:gB}{Q:Post}{env:List AV}{s:gA},sG P k mc Q env s->oZ P k mc Q env s
 |.skip,_,_,_,h=>RZ h
 |.gv _,_,_,_,h=>Wz h
 |.draw _ _,_,_,_,h=>Ug h.1 h.2
 |.seq a b,Q,env,s,h=>Uj (oZ.mono (gr (mc:=a) h) fun e env s hq=>by
  cases e with
  |normal=>exact gr (mc:=b) hq
  |_=>exact hq)
 |.cond o a b,Q,env,s,h=>by
  simp only[sG]at h;split at h
  ·rename_i t ht;refine RV ht ?_;unfold Br;split at h
   ·rename_i hb;rw[ah hb];exact gr (mc:=a) h
   ·rename_i hb;rw[ay hb];exact gr (mc:=b) h
  ·exact h.elim
 |.block id a,_,_,_,h=>Ox (gr (mc:=a) h)
 |.loop x,_,_,_,h=>h
 |.exit id,_,_,_,h=>RX h
 |.ret,_,_,_,h=>Ui h
 |.dead,_,_,_,h=>h.elim
 |.ghost x,_,_,_,h=>let⟨_,_,hw,h⟩:=h;Oy hw h
 |.Sa _ _ _ _,_,_,_,h=>h
 |.scope x,_,_,_,h=>OB (gr (mc:=x) h)
 |.label,_,_,_,h=>Oz h
def jk(P:Program)(k:Nat)(x:gB)(Q:Post)(env:List AV)(s:gA):Prop:=∃env' s',gM k env s env' s'/\oZ P k x Q env' s'
theorem jk.of{P:Program}{k:Nat}{x:gB}{Q:Post}{env env':List AV}{s s':gA}(hw:gM k env s env' s')(h:sG P k x Q env' s'):jk P k x Q env s:=⟨_,_,hw,gr h⟩
def ya(P:Program)(k:Nat)(b:Bool)(x y:gB)(Q:Post)(env:List AV)(s:gA):Prop:=if b=true then sG P k x Q env s else sG P k y Q env s
def Ht(P:Program)(k:Nat)(x y:gB)(Q:Post)(env:List AV)(s:gA):AV->Prop
 |.d (.lit (.bool b))=>ya P k b x y Q env s
 |_=>False
section
variable{P:Program}{k:Nat}{Q:Post}{env env':List AV}{s s':gA}{x y mc:gB}{b:Bool}
theorem M0:sG P k .skip Q env s=Q .normal env s:=(rfl)
theorem Pg{ms:List h_}:sG P k (.gv ms) Q env s=ud P k (Q .normal) ms env s:=(rfl)
theorem MX{ms:List h_}{af:List fW}:sG P k (.draw ms af) Q env s=(P.follows .mixedOrders=true/\tP P k (ym ms af Q) ms [] env s):=(rfl)
theorem Pj:sG P k (.seq x y) Q env s=sG P k x (AJ (sG P k y Q) Q) env s:=(rfl)
theorem J4{id:Nat}:sG P k (.block id x) Q env s=sG P k x (Bl id Q) env s:=(rfl)
theorem MZ:sG P k (.loop x) Q env s=oZ P k (.loop x) Q env s:=(rfl)
theorem J5:sG P k (.ghost x) Q env s=jk P k x Q env s:=(rfl)
theorem MY{id:Nat}:sG P k (.exit id) Q env s=Q (.exit id) env s:=(rfl)
theorem Ph:sG P k .ret Q env s=Q .ret env s:=(rfl)
theorem MW{o:Operand}:sG P k (.cond o x y) Q env s=Ht P k x y Q env s (ev env o):=by
 simp only[sG];split
 ·rename_i b h;rw[h];rfl
 ·rename_i h;unfold Ht;split
  ·rename_i b h2;exact absurd h2 (h b)
  ·rfl
theorem SX:ya P k true x y Q env s=sG P k x Q env s:=by simp[ya]
theorem SV:ya P k false x y Q env s=sG P k y Q env s:=by simp[ya]
end
section
variable{P:Program}{k k0:Nat}{Q:Post}{K:List AV->gA->Prop}{env env':List AV}{s s':gA}{x y mc:gB}{b b' want:Bool}{m:ri}{d:Option Nat}{ms:List h_}
 {F:List (List Nat×List Nat)->List AV->gA->Prop} {acc acc':List (List Nat×List Nat)} {foot foot':List Nat}
@[congr] theorem SS (he:env=env')(hs:s=s'):sG P k mc Q env s=sG P k mc Q env' s':=by rw[he,hs]
@[congr] theorem SK (he:env=env')(hs:s=s'):oZ P k mc Q env s=oZ P k mc Q env' s':=by rw[he,hs]
@[congr] theorem Nr (he:env=env')(hs:s=s'):jk P k x Q env s=jk P k x Q env' s':=by rw[he,hs]
@[congr] theorem SH (hb:b=b'):ya P k b x y Q env s=ya P k b' x y Q env s:=by rw[hb]
@[congr] theorem SE {R:List AV->gA->Prop}{o o':Out}(h:o=o'):lp P k0 R d o=lp P k0 R d o':=by rw[h]
@[congr] theorem SI (hb:b=b'):wF P k0 K b want m d ms env s=wF P k0 K b' want m d ms env s:=by rw[hb]
@[congr] theorem PB {R:List AV->gA->Prop}{f:Nat}{args args':List AV}(ha:args=args')(he:env=env')(hs:s=s'):
 kR P k0 f args env s d R=kR P k0 f args' env' s' d R:=by rw[ha,he,hs]
@[congr] theorem QU {o o':pW}(hf:foot=foot')(h:o=o'):kI P k0 F ms acc foot d env s o=kI P k0 F ms acc foot' d env s o':=by rw[h,hf]
@[congr] theorem SJ (hb:b=b'):wv P k0 F b want m d ms acc env s=wv P k0 F b' want m d ms acc env s:=by rw[hb]
@[congr] theorem Pz {f:Nat}{args args':List AV}(ha:args=args'):lN P k0 F ms acc foot d env s f args=lN P k0 F ms acc foot d env s f args':=by rw[ha]
@[congr] theorem SO {af:List fW}(ha:acc=acc')(he:env=env')(hs:s=s'):ym ms af Q acc env s=ym ms af Q acc' env' s':=by rw[ha,he,hs]
end
theorem K1{P:Program}{k0 f:Nat}{args env:List AV}{s:gA}{d:Option Nat}{R:List AV->gA->Prop}{dz:List D}{r:D}(hc:iw P f dz r)
 (ha:gV (args.map fun x=>x.jU (nK [])) (dz.map .d)) (hk:R (gU d env (.d r)) s):kR P k0 f args env s d R:=xH (EC ha hc hk)
theorem I7{P:Program}{k0 f:Nat}{args env:List AV}{s:gA}{d:Option Nat}{R:List AV->gA->Prop}{dz:List D}{rs:List D}(hc:rW P f dz rs)
 (ha:gV (args.map fun x=>x.jU (nK [])) (dz.map .d)) (hk:R (gU d env (.l_ (rs.map .d))) s):kR P k0 f args env s d R:=xH (CM ha hc hk)
theorem K0{P:Program}{k0:Nat}{F:List (List Nat×List Nat)->List AV->gA->Prop}{ms:List h_}{acc:List (List Nat×List Nat)}{foot:List Nat}{d:Option Nat}{env:List AV}{s:gA}
 {f:Nat} {args:List AV} {dz:List D} {r:D} (hc:iw P f dz r) (ha:gV (args.map fun x=>x.jU (nK [])) (dz.map .d))
 (hk:tP P k0 F ms ((foot,[])::acc) (gU d env (.d r)) s):lN P k0 F ms acc foot d env s f args:=.inl ⟨_,ha,.inl ⟨r,hc,hk⟩⟩
theorem I6{P:Program}{k0:Nat}{F:List (List Nat×List Nat)->List AV->gA->Prop}{ms:List h_}{acc:List (List Nat×List Nat)}{foot:List Nat}{d:Option Nat}{env:List AV}{s:gA}
 {f:Nat} {args:List AV} {dz rs:List D} (hc:rW P f dz rs) (ha:gV (args.map fun x=>x.jU (nK [])) (dz.map .d))
 (hk:tP P k0 F ms ((foot,[])::acc) (gU d env (.l_ (rs.map .d))) s):lN P k0 F ms acc foot d env s f args:=.inl ⟨_,ha,.inr ⟨rs,hc,hk⟩⟩
theorem kG.iu{P:Program}{f:Nat}{mc:gB}{n:Nat}{rs:List vG}(h:kG P f mc n rs){args:List D}{r:D}
 (hm:oZ P 0 mc (EM rs fun x _=>AV.le x (.d r)) (args.map .d++List.replicate (n-(args.map AV.d).length) .hM) []):iw P f args r:=
 (h.calls hm).mono fun _ _ hx=>⟨_,hx,rfl⟩
theorem kG.uA{P:Program}{f:Nat}{mc:gB}{n:Nat}{rs:List vG}(h:kG P f mc n rs){args:List D}{ds:List D}
 (hm:oZ P 0 mc (EM rs fun x _=>AV.le x (.l_ (ds.map .d))) (args.map .d++List.replicate (n-(args.map AV.d).length) .hM) []):rW P f args ds:=
 (h.calls hm).mono fun _ _ hx=>⟨_,hx,rfl⟩
def vo{σ β:Type}(f:σ->Option (σ⊕β)):Nat->σ->β->Prop
 |0,_,_=>False
 |n+1,s,b=>f s=some (.inr b)\/∃s',f s=some (.inl s')/\vo f n s' b
theorem vo.W1{σ β:Type}{f:σ->Option (σ⊕β)}:∀{n m:Nat}{s:σ}{b c:β},vo f n s b->vo f m s c->b=c
 |0,_,_,_,_,h,_=>h.elim
 |_+1,0,_,_,_,_,h=>h.elim
 |n+1,m+1,s,b,c,h1,h2=>by
  rcases h1 with h1|⟨s1,h1,h3⟩<;>rcases h2 with h2|⟨s2,h2,h4⟩<;>rw[h1]at h2<;>cases h2
  ·rfl
  ·exact vo.W1 h3 h4
open Classical in
def gF{σ β:Type}(f:σ->Option (σ⊕β))(s:σ):Option β:=if h:∃b n,vo f n s b then some (choose h)else none
theorem vV{σ β:Type}{f:σ->Option (σ⊕β)}{s:σ}{b:β}(h:gF f s=some b):∃n,vo f n s b:=by
 unfold gF at h;split at h
 ·rename_i hx;cases h;exact eS hx
 ·cases h
theorem vo.gF{σ β:Type}{f:σ->Option (σ⊕β)}{n:Nat}{s:σ}{b:β}(h:vo f n s b):gF f s=some b:=by
 have hx:∃b n,vo f n s b:=⟨b,n,h⟩;unfold kJ.gF;rw[dif_pos hx];obtain⟨m,hm⟩:=eS hx;rw[hm.W1 h]
theorem oN{σ β:Type}{f:σ->Option (σ⊕β)}{s:σ}{b:β}(h:f s=some (.inr b)):gF f s=some b:=vo.gF (n:=1) (.inl h)
theorem qR{σ β:Type}{f:σ->Option (σ⊕β)}{s s':σ}(h:f s=some (.inl s')):gF f s=gF f s':=by
 cases hx:gF f s' with
 |some b=>obtain⟨n,hn⟩:=vV hx;exact vo.gF (n:=n+1) (.inr ⟨s',h,hn⟩)
 |none=>
  cases hy:gF f s with
  |none=>rfl
  |some b=>
   obtain⟨n,hn⟩:=vV hy;cases n with
   |zero=>exact hn.elim
   |succ n=>
    rcases hn with hn|⟨s2,h2,h3⟩
    ·rw[h]at hn;cases hn
    ·rw[h]at h2;cases h2;rw[h3.gF]at hx;cases hx
theorem pS{P:Program}{k:Nat}{Q:Post}{env:List AV}{s:gA}{x:gB}{σ β:Type}{f:σ->Option (σ⊕β)}{s0:σ}{b:β}(hb:gF f s0=some b)
 (ws:List Nat) (vs:σ->List (Nat×AV)) (S:σ->gA) (hw:gM k env s (tJ (qz env ws) (vs s0)) (S s0))
 (round:∀p t,f p=some t->(∀b',t=.inr b'->b'=b)->oZ P k x (AJ (fun env' s'=>∃p',t=.inl p'/\gM k env' s' (tJ (qz env ws) (vs p')) (S p')) Q)
  (tJ (qz env ws) (vs p)) (S p)):oZ P k (.loop x) Q env s:=by
 obtain⟨n,hn⟩:=vV hb;refine OA ws (fun p:Nat×σ=>vs p.2) (fun p=>S p.2) (fun p=>vo f p.1 p.2 b) (·.1) (n,s0) hn hw ?_;rintro⟨m,p⟩ hm;cases m with
 |zero=>exact hm.elim
 |succ m=>
  rcases hm with hm|⟨p',hm,hr⟩
  ·refine(round p _ hm fun b' hb'=>by cases hb';rfl).mono fun e env s hq=>?_
   cases e with
   |normal=>obtain⟨p',hp,_⟩:=hq;cases hp
   |_=>exact hq
  ·refine(round p _ hm fun b' hb'=>by cases hb').mono fun e env s hq=>?_
   cases e with
   |normal=>obtain⟨p2,hp,hw⟩:=hq;cases hp;exact⟨(m,p'),hr,Nat.lt_succ_self m,hw⟩
   |_=>exact hq
theorem qS{α:Type}{p:Prop}[Decidable p]{a:Option α}{r:α}(h:(if p then a else none)=some r):p/\a=some r:=by
 split at h
 ·rename_i hp;exact⟨hp,h⟩
 ·cases h
theorem BL{α:Type}{c:Bool}{a b:Option α}{r:α}(h:(if c=true then a else b)=some r):(c=true/\a=some r)\/(c=false/\b=some r):=by
 cases c with
 |true=>exact .inl ⟨rfl,by simpa using h⟩
 |false=>exact .inr ⟨rfl,by simpa using h⟩
theorem bind_some{α β:Type}{x:Option α}{K:α->Option β}{r:β}(h:x.bind K=some r):∃a,x=some a/\K a=some r:=aB.1 h
theorem gT{σ β:Type}{x:Option β}{t:σ⊕β}{b:β}(h:x.map Sum.inr=some t)(hb:∀b',t=.inr b'->b'=b):x=some b:=by
 cases x with
 |none=>cases h
 |some c=>cases h;rw[hb c rfl]
open Classical in
def Ky{α β:Type}(xs:List α)(a b:Option β):Option β:=if xs=[]then(if a=b then b else none)else b
theorem Kz{α β:Type}{xs:List α}{a b:Option β}{r:β}(h:Ky xs a b=some r):(xs=[]->a=some r)/\b=some r:=by
 unfold Ky at h;split at h
 ·split at h
  ·rename_i h1;exact⟨fun _=>h1.trans h,h⟩
  ·cases h
 ·rename_i hx;exact⟨fun he=>absurd he hx,h⟩
open Classical in
def yz{α:Type}(f:Nat->Option α):Option α:=if h:∃a n,f n=some a then some (choose h)else none
theorem ng{α:Type}{f:Nat->Option α}{a:α}(h:yz f=some a):∃n,f n=some a:=by
 unfold yz at h;split at h
 ·rename_i hx;cases h;exact eS hx
 ·cases h
theorem tG{p q:Prop}(hp:p)(hq:q):p/\q:=⟨hp,hq⟩
def LI(n off:Nat)(ag:Bool)(K:AV->Prop):Ob->Prop
 |.obj _ cs=>off+n<=cs.length/\K (It n off cs ag)
 |_=>False
theorem Jz{n id off:Nat}{ag:Bool}{s:gA}{K:AV->Prop}:pU n ag (.ptr id off) s K=LI n off ag K (sat s id):=by
 simp only[pU];cases sat s id with
 |obj t cs=>cases ag<;>rfl
 |_=>rfl
attribute [go_sem] LI Jz
theorem MS:AV.qc []=some []:=rfl
theorem J1{x:D}{xs:List AV}:AV.qc (.d x::xs)=(AV.qc xs).map (x::·):=rfl
theorem MU{e id:Nat}{ys:List D}{xs:List AV}:AV.qc (.own e id ys::xs)=none:=rfl
theorem MV{id off:Nat}{xs:List AV}:AV.qc (.ptr id off::xs)=none:=rfl
theorem MR{e id off len:Nat}{xs:List AV}:AV.qc (.mm e id off len::xs)=none:=rfl
theorem Pc{f:Nat}{a b xs:List AV}:AV.qc (.fn f a b::xs)=none:=rfl
theorem J3{xs:List AV}:AV.qc (.hM::xs)=none:=rfl
theorem MP{ys xs:List AV}:AV.qc (.agg ys::xs)=none:=rfl
def W5(cs:List AV):Option (List D)->AV
 |some ds=>.d (.agg ds)
 |none=>.agg cs
theorem R3:AV.mk []=.d (.agg []):=rfl
theorem OC{x:AV}{xs:List AV}:AV.mk (x::xs)=W5 (x::xs) (AV.qc (x::xs)):=by unfold AV.mk;cases AV.qc (x::xs)<;>rfl
attribute [go_sem] MS J1 MU MV MR Pc J3 MP W5 R3 OC
theorem KM:KI (.pointer none)=.d (.lit (.pointer none)):=rfl
theorem KL:KI (.map none)=.d (.lit (.map none)):=rfl
theorem ND:KI .nilFunc=.d (.lit .nilFunc):=rfl
theorem Rg{k:IntKind}{n:Int}:cD (.int k n)=.lit (.int k n):=rfl
theorem NH{b:Bool}:cD (.bool b)=.lit (.bool b):=rfl
theorem IW{b:ByteArray}:cD (.string b)=.lit (.string b):=rfl
theorem Rh:cD (.slice none 0 0)=.sl 0 (some true) []:=rfl
theorem NJ:cD (.pointer none)=.lit (.pointer none):=rfl
theorem NI:cD (.map none)=.lit (.map none):=rfl
theorem Rf:cD .nilFunc=.lit .nilFunc:=rfl
theorem OL{k:IntKind}{n:Int}:one (.int k n)=true:=rfl
theorem L9{b:Bool}:one (.bool b)=true:=rfl
theorem G1{b:ByteArray}:one (.string b)=true:=rfl
theorem JI{a:Option Addr}{n c:Nat}:one (.slice a n c)=true:=rfl
theorem ON{a:Option Addr}:one (.pointer a)=true:=rfl
theorem OM{a:Option Nat}:one (.map a)=true:=rfl
theorem OK:one .nilFunc=true:=rfl
attribute [go_sem] KM KL ND Rg NH IW Rh NJ NI Rf OL L9 G1 JI ON OM OK List.all_cons List.all_nil Bool.and_self
abbrev kD(k:IntKind)(n:Int):D:=.lit (.int k n)
abbrev sD(b:ByteArray):D:=.lit (.string b)
def gu{α:Type}(e:Nat)(f:α->D)(xs:List α):D:=.sl e none (xs.map f)
theorem O8{α:Type}{e:Nat}{f:α->D}{xs:List α}:pN (.d (gu e f xs))=some (e,xs.map f):=rfl
theorem OJ{α:Type}{e:Nat}{f:α->D}{xs:List α}:xb (.d (gu e f xs))=none:=rfl
theorem Jf{α:Type}{e:Nat}{f:α->D}{xs:List α}:AV.cells (.d (gu e f xs))=some [.d (gu e f xs)]:=rfl
theorem F1{α:Type}{e:Nat}{f:α->D}{xs:List α}:AV.Ba (.d (gu e f xs))=none:=rfl
theorem Gv{α:Type}{e:Nat}{f:α->D}{xs:List α}:gx (gu e f xs)=[gu e f xs]:=rfl
theorem getD_map'{α:Type}[Inhabited α]{f:α->D}{l:List α}{i:Nat}{d:D}(h:i<l.length):(l.map f).getD i d=f (l.getD i default):=by simp[ak,bk,aA h]
attribute [go_sem] List.length_map List.length_append Option.map_some Option.map_none Option.bind_some and_self Nat.not_lt_zero Bool.not_true Bool.not_false List.forall_mem_cons List.not_mem_nil false_imp_iff implies_true getD_map' List.map_eq_nil_iff List.append_eq_nil_iff Int.toNat_natCast Ob.tok.injEq true_or or_true false_or or_false GJ FU Jy Lz Q6 ki vI uB
attribute [go_sem] J5 M0 Pg MX Pj J4 MZ MY Ph MW SX SV Ht O8 OJ Jf F1 Gv nK mC
theorem gV.refl:∀xs:List AV,gV xs xs
 |[]=>trivial
 |x::xs=>⟨AV.le_refl x,gV.refl xs⟩
theorem vI.refl:∀o:Ob,vI o o
 |.dead=>trivial
 |.obj _ cs=>⟨rfl,gV.refl cs⟩
 |.tok _ _ _=>⟨rfl,rfl,rfl⟩
 |.ij _ _ _ _=>⟨rfl,rfl,rfl,gV.refl _⟩
 |.oh _ _ _ _=>⟨rfl,rfl,rfl,yM.refl _⟩
 |.tc _ _ _=>⟨rfl,rfl,yM.refl _⟩
 |.mp _ _ _=>⟨rfl,rfl,M5.refl _⟩
theorem vE{β:gI}{s s':gA}(hs:∀id,vI (sat s id) (sat s' id))(b o:Nat):own β s' b o<->own β s b o:=by
 unfold own;refine exists_congr fun id=>?_
 have:=hs id;revert this;cases sat s id<;>cases sat s' id<;>intro h1<;>first|exact h1.elim|exact cE|skip
 ·obtain⟨_,rfl,rfl⟩:=h1;exact cE
 ·obtain⟨_,rfl,rfl,_⟩:=h1;exact cE
 ·obtain⟨_,rfl,rfl,_⟩:=h1;exact cE
 ·obtain⟨rfl,rfl,_⟩:=h1;exact cE
theorem zJ{β:gI}{s s':gA}(hs:∀id,vI (sat s id) (sat s' id))(id b:Nat):gw β s' id b<->gw β s id b:=by
 unfold gw;have:=hs id;revert this;cases sat s id<;>cases sat s' id<;>intro h1<;>first|exact h1.elim|exact cE|skip
 ·obtain⟨_,rfl,rfl⟩:=h1;exact cE
 ·obtain⟨_,rfl,rfl,_⟩:=h1;exact cE
 ·obtain⟨_,rfl,rfl,_⟩:=h1;exact cE
 ·obtain⟨rfl,rfl,_⟩:=h1;exact cE
theorem Inv.ctx{C:Ctx}{s1:gA}{β:gI}{s:gA}{w:World}(hs:∀id,vI (sat C.s id) (sat s1 id)):Inv C β s w<->Inv {C with s:=s1} β s w:=by
 constructor
 ·intro h;exact⟨h.size,h.io,fun b o v h1 h2=>h.keep b o v h1 fun h3=>h2 ((vE hs b o).2 h3),fun b h1 h2=>h.sk b h1 fun id h3=>h2 id ((zJ hs id b).2 h3),
   fun b o h1=>(h.qb b o h1).imp (fun h2=>(vE hs b o).2 h2) id,fun id b h1=>(h.tH id b h1).imp (fun⟨i,h2⟩=>⟨i,(zJ hs i b).2 h2⟩) (fun x=>x),h.pl,
   fun b o h1=>⟨(h.low b o h1).1,fun h2=>(h.low b o h1).2 ((vE hs b o).1 h2)⟩,h.obs,h.inj⟩
 ·intro h;exact⟨h.size,h.io,fun b o v h1 h2=>h.keep b o v h1 fun h3=>h2 ((vE hs b o).1 h3),fun b h1 h2=>h.sk b h1 fun id h3=>h2 id ((zJ hs id b).1 h3),
   fun b o h1=>(h.qb b o h1).imp (fun h2=>(vE hs b o).1 h2) id,fun id b h1=>(h.tH id b h1).imp (fun⟨i,h2⟩=>⟨i,(zJ hs i b).1 h2⟩) (fun x=>x),h.pl,
   fun b o h1=>⟨(h.low b o h1).1,fun h2=>(h.low b o h1).2 ((vE hs b o).2 h2)⟩,h.obs,h.inj⟩
theorem gG.SQ{P:Program}{f:Nat}{dz:List AV}{s s1:gA}{k:Nat}{R:AV->gA->Prop}(h:gG P f dz s1 k R)(hs:ki s s1):gG P f dz s k R:=fun C vs h1 h2 h3 h4=>by
 subst h1;have hs':=hs.sat;obtain⟨h5,h6⟩:=h3.told hs';refine(h {C with s:=s1} vs rfl h2 ((Inv.ctx hs').1 h5) (by
  show AV.gO C.β (Ctx.gD {C with s:=s1} C.β s1) C.w dz vs.toList;have:Ctx.gD {C with s:=s1} C.β s1=C.gD C.β C.s:=h6;rw[this];exact h4)).mono fun e w' ⟨v,x,β',s',e1,e2,e3,e4⟩=>⟨v,x,β',s',e1,(Inv.ctx hs').2 e2,e3,e4⟩
def qX:List Nat->gA->gA
 |[],s=>s
 |i::r,s=>qX r (uB i s)
def yA:List Nat->AV->AV
 |[],x=>x
 |i::r,x=>yA r (x.jU (gJ i))
theorem Inv.drop{C:Ctx}{β:gI}{s:gA}{w:World}(h:Inv C β s w)(id:Nat)(hid:C.k<=id):∃β',Inv C β' (uB id s) w/\
 ∀x v,AV.ok β (C.gD β s) w x v->AV.ok β' (C.gD β' (uB id s)) w (x.jU (gJ id)) v:=by
 have hs:∀j,vI (sat (ig id s) j) (sat (uB id s) j):=fun j=>by rw[zB];exact .refl _
 obtain⟨h1,h2⟩:=(h.kill id hid).told hs;exact⟨_,h1,fun x v hx=>by rw[h2];exact uQ hx⟩
theorem Inv.oc{C:Ctx}{w:World}:∀{ids:List Nat}{β:gI}{s:gA},Inv C β s w->(∀i∈ids,C.k<=i)->∃β',Inv C β' (qX ids s) w/\
 ∀x v,AV.ok β (C.gD β s) w x v->AV.ok β' (C.gD β' (qX ids s)) w (yA ids x) v
 |[],β,_,h,_=>⟨β,h,fun _ _ hx=>hx⟩
 |i::r,_,_,h,hi=>by
  obtain⟨β1,h1,h2⟩:=h.drop i (hi i (by simp));obtain⟨β2,h3,h4⟩:=h1.oc (ids:=r) fun j hj=>hi j (by simp[hj])
  exact⟨β2,h3,fun x v hx=>h4 _ _ (h2 _ _ hx)⟩
theorem gG.cut{P:Program}{f:Nat}{args:List AV}{s:gA}{k:Nat}{y:AV}{t:gA}
 (h:gG P f args s k fun x s'=>∃ids,(∀i∈ids,k<=i)/\AV.le (yA ids x) y/\ki (qX ids s') t):gG P f args s k fun x s'=>x=y/\s'=t:=fun C vs h1 h2 h3 h4=>
 (h C vs h1 h2 h3 h4).mono fun e w' ⟨v,x,β',s',e1,e2,e3,ids,e4,e5,e6⟩=>by
  subst h2;obtain⟨β2,h5,h6⟩:=e2.oc e4;obtain⟨h7,h8⟩:=h5.told e6.sat;exact⟨v,y,β2,t,e1,h7,by rw[h8];exact e5 _ _ _ _ (h6 _ _ e3),rfl,rfl⟩
theorem kG.kS{P:Program}{f:Nat}{mc:gB}{n:Nat}{rs:List vG}(h:kG P f mc n rs){args:List AV}{s t:gA}{k:Nat}{y:AV}
 (hm:oZ P k mc (EM rs fun x s'=>∃ids,(∀i∈ids,k<=i)/\AV.le (yA ids x) y/\ki (qX ids s') t) (args++List.replicate (n-args.length) .hM) s):
 gG P f args s k fun x s'=>x=y/\s'=t:=gG.cut (h.calls hm)
theorem N2{P:Program}{k0 f:Nat}{args env:List AV}{s:gA}{d:Option Nat}{R:List AV->gA->Prop}(pr nw:List fR){dz:List AV}{s1 t:gA}{y:AV}
 (hc:gG P f dz s1 pr.length fun x s'=>x=y/\s'=t) (h1:pr.map (·.1)=List.range pr.length) (h2:((pr++nw).map (·.1)).Nodup) (h3:((pr++nw).map (·.2)).Nodup)
 (h4:∀p∈nw,sat s p.2=.dead/\k0<=p.2) (ha:gV (args.map fun x=>x.jU (nK pr)) dz) (hs:ki (mq s pr pr) s1)
 (hk:R (gU d env (y.jU (mC (pr++nw)))) (qW s t (pr++nw) (pr++nw))):kR P k0 f args env s d R:=
 xH ⟨pr,nw,_,h1,h2,h3,h4,(hc.SQ hs).args ha,fun x s' ⟨e1,e2⟩=>by subst e1;subst e2;exact hk⟩
theorem N1{P:Program}{k0:Nat}{F:List (List Nat×List Nat)->List AV->gA->Prop}{ms:List h_}{acc:List (List Nat×List Nat)}{foot:List Nat}{d:Option Nat}{env:List AV}{s:gA}
 {f:Nat} {args:List AV} (pr nw:List fR) {dz:List AV} {s1 t:gA} {y:AV}
 (hc:gG P f dz s1 pr.length fun x s'=>x=y/\s'=t) (h1:pr.map (·.1)=List.range pr.length) (h2:((pr++nw).map (·.1)).Nodup) (h3:((pr++nw).map (·.2)).Nodup)
 (h4:∀p∈nw,sat s p.2=.dead/\k0<=p.2) (ha:gV (args.map fun x=>x.jU (nK pr)) dz) (hs:ki (mq s pr pr) s1)
 (hk:tP P k0 F ms (((pr++nw).map (·.2)++foot,(Fe t (pr++nw) (pr++nw)).map (·.1))::acc) (gU d env (y.jU (mC (pr++nw)))) (pL s (Fe t (pr++nw) (pr++nw)))):
 lN P k0 F ms acc foot d env s f args:=.inr ⟨pr,nw,y,t,h1,h2,h3,h4,(hc.SQ hs).args ha,hk⟩
theorem gG.plain{P:Program}{f:Nat}{args:List D}{y:AV}{t:gA}{r:D}(h:gG P f (args.map .d) [] 0 fun x s'=>x=y/\s'=t)(hy:AV.le y (.d r)):iw P f args r:=
 h.mono fun x s ⟨hx,_⟩=>⟨_,by rw[hx];exact hy,rfl⟩
attribute [go_sem] Fe mq qW Ob.jU qX yA
mutual
def AV.mT(id:Nat)(ds:List D):AV->AV
 |.hM=>.hM
 |.d x=>.d x
 |.own e j xs=>if j=id then .d (.sl e none xs)else .own e j xs
 |.ptr j off=>if j=id then .hM else .ptr j off
 |.mm e j off len=>if j=id then(if e=1/\off+len<=ds.length/\(∀d∈ds,(gx d).length=1)then .d (.sl 1 none ((ds.drop off).take len))
  else if off=0/\len=ds.length/\(∀d∈ds,(gx d).length=e)then .d (.sl e none ds)else .hM)else .mm e j off len
 |.pv cs=>.pv cs
 |.pa cs=>.pa (AV.oz id ds cs)
 |.agg cs=>.agg (AV.oz id ds cs)
 |.l_ cs=>.l_ (AV.oz id ds cs)
 |.fn f a b=>.fn f (AV.oz id ds a) (AV.oz id ds b)
 |.jM e j n=>if j=id then(if n=ds.length/\(∀d∈ds,(gx d).length=e)then .d (.sl e none ds)else .hM)else .jM e j n
 |.kH j k off=>if j=id then .hM else .kH j k off
 |.Ac e xs=>.Ac e xs
 |.dp x=>.dp x
 |.mp j=>if j=id then .hM else .mp j
def AV.oz(id:Nat)(ds:List D):List AV->List AV
 |[]=>[]
 |x::xs=>AV.mT id ds x::AV.oz id ds xs
end
theorem Ab(id:Nat)(ds:List D):∀xs:List AV,AV.oz id ds xs=xs.map (AV.mT id ds)
 |[]=>rfl
 |x::xs=>by simp only[AV.oz,aZ,Ab id ds xs]
theorem FM{id:Nat}{ds:List D}{β β':gI}{O O':Own}{w w':World}{x:AV}{v:Value}(h:AV.ok β O w x v->AV.ok β' O' w' (x.mT id ds) v):
 ((∃d,x=.dp d/\x.mT id ds=.dp d)\/(∀d,x≠ .dp d)/\(∀d,x.mT id ds≠ .dp d)/\(AV.ok β O w x v->AV.ok β' O' w' (x.mT id ds) v)):=by
 cases x with
 |dp d=>exact .inl ⟨d,rfl,rfl⟩
 |own e j xs=>refine .inr ⟨fun d h=>(nomatch h),fun d h=>?_,h⟩;simp only[AV.mT]at h;split at h<;>exact nomatch h
 |ptr j off=>refine .inr ⟨fun d h=>(nomatch h),fun d h=>?_,h⟩;simp only[AV.mT]at h;split at h<;>exact nomatch h
 |mm e j off len=>refine .inr ⟨fun d h=>(nomatch h),fun d h=>?_,h⟩;simp only[AV.mT]at h;(repeat' split at h)<;>exact nomatch h
 |jM e j k=>refine .inr ⟨fun d h=>(nomatch h),fun d h=>?_,h⟩;simp only[AV.mT]at h;(repeat' split at h)<;>exact nomatch h
 |kH j k off=>refine .inr ⟨fun d h=>(nomatch h),fun d h=>?_,h⟩;simp only[AV.mT]at h;split at h<;>exact nomatch h
 |mp j=>refine .inr ⟨fun d h=>(nomatch h),fun d h=>?_,h⟩;simp only[AV.mT]at h;split at h<;>exact nomatch h
 |_=>exact .inr ⟨fun d h=>(nomatch h),fun d h=>(nomatch h),h⟩
def Ob.mT(id:Nat)(ds:List D):Ob->Ob
 |.obj t cs=>.obj t (AV.oz id ds cs)
 |.oh t e n cs=>.oh t e n (AV.oz id ds cs)
 |.tc e n cs=>.tc e n (AV.oz id ds cs)
 |x=>x
def rU(id:Nat)(ds:List D):gA->gA
 |[]=>[]
 |(j,x)::r=>if j=id then rU id ds r else(j,x.mT id ds)::rU id ds r
theorem xu(id:Nat)(ds:List D)(j:Nat):∀s:gA,sat (rU id ds s) j=if j=id then .dead else(sat s j).mT id ds
 |[]=>by simp[rU,sat,Ob.mT]
 |(i,x)::r=>by
  simp only[rU];by_cases h:i=id
  ·subst h;simp only[aO,sat,xu i ds j r];split
   ·rfl
   ·rfl
  ·simp only[h,aI,sat,xu id ds j r];by_cases h2:j=i
   ·subst h2;simp[h]
   ·simp[h2]
theorem zq{β:gI}{s:gA}{id b o:Nat}{ds:List D}(h:own (gC β id .no) (rU id ds s) b o):∃i,i≠id/\rS β s i b o:=by
 obtain⟨i,h⟩:=h;rw[xu]at h;by_cases hi:i=id
 ·subst hi;simp at h
 ·refine⟨i,hi,?_⟩;unfold rS;simp only[hi,aI]at h;cases hs:sat s i with
  |dead=>rw[hs]at h;exact h
  |obj t cs=>rw[hs]at h;simpa[Ob.mT,gC,hi]using h
  |tok t e n=>rw[hs]at h;simpa[Ob.mT,gC,hi]using h
  |ij t e n cs=>rw[hs]at h;simpa[Ob.mT,gC,hi]using h
  |oh t e n cs=>rw[hs]at h;simpa[Ob.mT,gC,hi]using h
  |tc e n cs=>rw[hs]at h;simpa[Ob.mT,gC,hi]using h
  |mp P k es=>rw[hs]at h;first|exact h.elim|simpa[Ob.mT,gC,hi]using h
theorem wM{β:gI}{s:gA}{id i b:Nat}{ds:List D}(h:gw (gC β id .no) (rU id ds s) i b):i≠id/\gw β s i b:=by
 unfold gw at h⊢;rw[xu]at h;by_cases hi:i=id
 ·subst hi;simp at h
 ·refine⟨hi,?_⟩;simp only[hi,aI]at h;cases hs:sat s i with
  |dead=>rw[hs]at h;exact h
  |obj t cs=>rw[hs]at h;simpa[Ob.mT,gC,hi]using h
  |tok t e n=>rw[hs]at h;simpa[Ob.mT,gC,hi]using h
  |ij t e n cs=>rw[hs]at h;simpa[Ob.mT,gC,hi]using h
  |oh t e n cs=>rw[hs]at h;simpa[Ob.mT,gC,hi]using h
  |tc e n cs=>rw[hs]at h;simpa[Ob.mT,gC,hi]using h
  |mp P k es=>rw[hs]at h;first|exact h.elim|simpa[Ob.mT,gC,hi]using h
theorem Mq{O:Own}{w:World}{b:Nat}:∀{ds:List D}{vs:List Value}{o:Nat},(∀d∈ds,gx d=[d])->D.gO O w ds vs->jI O w b o vs->D.row O w b o 1 ds
 |[],_,_,_,_,_=>by simp[D.row]
 |d::ds,vs,o,hd,h,hc=>by
  simp only[D.gO]at h;obtain⟨v,r,rfl,h1,h2,h3⟩:=h;rw[D.lY];refine⟨⟨[v],rfl,fun j u hj=>?_,?_⟩,Mq (fun x hx=>hd x (by simp[hx])) h3 fun j u hj=>?_⟩
  ·cases j with
   |zero=>simp at hj;subst hj;exact hc 0 v rfl
   |succ j=>simp at hj
  ·have:=hd d (by simp);cases d with
   |agg cs=>
    simp only[gx]at this;simp only[D.Dn];have hx:=aN List.length this;cases cs with
    |nil=>simp at hx
    |cons c cs=>
     simp only[ef]at this;obtain⟨e1,_⟩:=this;have:=aN SizeOf.sizeOf e1;simp at this;omega
   |_=>exact⟨v,rfl,h2⟩
  ·have:=hc (j+1) u hj;rw[show o+1+j=o+(j+1) by omega];exact this
section
variable{C:Ctx}{β:gI}{s:gA}{w:World}{id t:Nat}{ds:List D}
theorem y_{b o:Nat}(h:C.gD (gC β id .no) (rU id ds s) b o):C.gD β s b o:=h.imp (fun x=>x) fun h=>let⟨i,_,h⟩:=zq h;⟨i,h⟩
theorem wT{x:D}{v:Value}(h:D.ok (C.gD β s) w x v):D.ok (C.gD (gC β id .no) (rU id ds s)) w x v:=D.jH (fun _ _ _ hc hn=>⟨hc,fun h=>hn (y_ h)⟩) _ _ h
theorem vw{x:List D}{v:List Value}(h:D.gO (C.gD β s) w x v):D.gO (C.gD (gC β id .no) (rU id ds s)) w x v:=D.jb (fun _ _ _ hc hn=>⟨hc,fun h=>hn (y_ h)⟩) _ _ h
def wI(s:gA)(id:Nat)(ds:List D):Prop:=
 (∃t,sat s id=.obj t (ds.map .d)/\∀d∈ds,gx d=[d])\/(∃t e,sat s id=.ij t e ds.length (ds.flatMap gx)/\∀d∈ds,(gx d).length=e)\/
  ∃t e,sat s id=.obj t ((ds.flatMap gx).map .d)/\(∀d∈ds,(gx d).length=e)/\e≠1/\ds≠[]
theorem Od(h:Inv C β s w)(ho:sat s id=.obj t (ds.map .d))(hd:∀d∈ds,gx d=[d]){off len:Nat}(hl:off+len<=ds.length){v:Value}
 (hv:AV.ok β (C.gD β s) w (.mm 1 id off len) v):D.ok (C.gD (gC β id .no) (rU id ds s)) w (.sl 1 none ((ds.drop off).take len)) v:=by
 simp only[AV.ok]at hv;obtain⟨b,cap,h1,⟨h2,h3⟩,rfl⟩:=hv;have hob:=h.obs id;rw[ho]at hob;obtain⟨b',vs,h4,h5,h6,h7⟩:=hob;rw[h1]at h4;cases h4;have hlen:((ds.drop off).take len).length=len:=by simp;omega
 obtain⟨pre,rest,hvs,h7⟩:=h7;have h6':∀u∈pre,one u=true:=fun u hu=>h6 u (by rw[hvs];exact bF _ hu)
 have hoks:=zn h6' h7;have hcells:jI (C.gD (gC β id .no) (rU id ds s)) w b 0 pre:=fun j u hj=>by
  have hju:vs[j]?=some u:=by
   have:vs.toList[j]?=some u:=by rw[hvs,aT (aP.1 hj).1];exact hj
   simpa using this
  refine⟨?_,?_,h6' u (bR hj)⟩
  ·simp[World.cell?,h5,hju]
  ·rintro(hO|hO)
   ·have:=h.low b (0+j) hO;rcases h.qb b (0+j) ⟨id,by rw[ho];exact h1⟩with h8|h8
    ·exact this.2 h8
    ·omega
   ·obtain⟨i,hi,hO⟩:=zq hO;exact hi (h.inj i id b hO.block (by unfold gw;rw[ho];exact h1))
 simp only[D.ok];refine⟨some ⟨b,off,none⟩,cap,by rw[hlen],by rw[hlen];exact⟨h2,h3⟩,trivial,.inr ⟨b,off,rfl,?_⟩⟩;have hall:=vw (id:=id) (ds:=ds) hoks;rw[D.jd]at hall;refine Mq (vs:=(pre.drop off).take len) (fun d hd'=>hd d (cA (bE hd'))) ?_ fun j u hj=>?_
 ·rw[D.jd];refine⟨by simp[<-hall.1],fun i x u hx hu=>?_⟩;rw[bS]at hx hu;split at hx
  ·rename_i hi;rw[ah hi]at hu;rw[cz]at hx hu;exact hall.2 _ _ _ hx hu
  ·cases hx
 ·rw[bS]at hj;split at hj
  ·rw[cz]at hj;have:=hcells (off+j) u hj;rwa [show 0+(off+j)=off+j by omega]at this
  ·cases hj
theorem Bs{O:Own}{w:World}:∀{xs ys:List D}{vs:List Value},D.gO O w (xs++ys) vs->∃us r,vs=us++r/\D.gO O w xs us/\D.gO O w ys r
 |[],ys,vs,h=>⟨[],vs,rfl,by simp[D.gO],h⟩
 |x::xs,ys,vs,h=>by
  simp only[cg,D.gO]at h;obtain⟨v,r,rfl,h0,h1,h2⟩:=h;obtain⟨us,r',rfl,h3,h4⟩:=Bs h2;exact⟨v::us,r',rfl,by simp only[D.gO];exact⟨v,us,rfl,h0,h1,h3⟩,h4⟩
theorem Bz{O:Own}{w:World}{b e:Nat}:∀{ds:List D}{vs:List Value}{o:Nat},(∀d∈ds,(gx d).length=e)->D.gO O w (ds.flatMap gx) vs->jI O w b o vs->D.row O w b o e ds
 |[],_,_,_,_,_=>by simp[D.row]
 |d::ds,vs,o,hd,h,hc=>by
  rw[bH]at h;obtain⟨us,r,rfl,h1,h2⟩:=Bs h;have hl:=D.gY h1;rw[hd d (by simp)]at hl;rw[D.lY];refine⟨⟨us,hl,fun j u hj=>?_,Ii h1⟩,Bz (fun x hx=>hd x (by simp[hx])) h2 fun j u hj=>?_⟩
  ·exact hc j u (by rw[aT (aP.1 hj).1];exact hj)
  ·have:=hc (e+j) u (by rw[bI gq,hl,eM];exact hj);rwa [<-cQ]at this
theorem Oc{e:Nat}(h:Inv C β s w)(ho:sat s id=.ij t e ds.length (ds.flatMap gx)){e':Nat}(hd:∀d∈ds,(gx d).length=e'){v:Value}
 (hv:AV.ok β (C.gD β s) w (.jM e' id ds.length) v):D.ok (C.gD (gC β id .no) (rU id ds s)) w (.sl e' none ds) v:=by
 simp only[AV.ok]at hv;obtain⟨u,m,h1,h2,h3,_⟩:=hv;have hob:=h.obs id;rw[ho]at hob;obtain⟨u',h4,_,h6⟩:=hob;rw[h4]at h1;obtain⟨rfl,rfl⟩:=h1;have:=h3 rfl;subst this;simp only[D.ok];rcases h6 with⟨rfl,h7⟩|⟨b,cap,vs,rfl,k2,k3,k4,k5,k6,pre,rest,k7,k8⟩
 ·have:ds=[]:=bU.1 h7;subst this;exact⟨none,0,rfl,⟨au _,gq⟩,trivial,.inl rfl⟩
 ·refine⟨_,cap,rfl,⟨k4,k5⟩,trivial,.inr ⟨b,0,rfl,Bz hd (vw k8) fun j u hj=>?_⟩⟩;have hju:vs[j]?=some u:=by
   have:vs.toList[j]?=some u:=by rw[k7,aT (aP.1 hj).1];exact hj
   simpa using this
  refine⟨by simp[World.cell?,k2,hju],?_,k6 u (by rw[k7];exact bF _ (bR hj))⟩;have hbl:gw β s id b:=by unfold gw;rw[ho];exact⟨cap,h4⟩
  rintro(hO|hO)
  ·have:=h.low b (0+j) hO;rcases h.qb b (0+j) ⟨id,by rw[ho];exact⟨cap,h4⟩⟩with h8|h8
   ·exact this.2 h8
   ·omega
  ·obtain⟨i,hi,hO⟩:=zq hO;exact hi (h.inj i id b hO.block hbl)
theorem Lh{e:Nat}(h:Inv C β s w)(ho:wI s id ds)(hd:∀d∈ds,(gx d).length=e)(hn:¬(e=1/\0+ds.length<=ds.length/\∀d∈ds,(gx d).length=1)){v:Value}
 (hv:AV.ok β (C.gD β s) w (.mm e id 0 ds.length) v):D.ok (C.gD (gC β id .no) (rU id ds s)) w (.sl e none ds) v:=by
 simp only[AV.ok]at hv;obtain⟨b,cap,h1,⟨h2,h3⟩,rfl⟩:=hv;simp only[D.ok];by_cases hds:ds=[]
 ·subst hds;exact⟨_,cap,rfl,⟨h2,h3⟩,trivial,.inl rfl⟩
 obtain⟨d0,hd0⟩:=List.exists_mem_of_ne_nil _ hds;rcases ho with⟨t,ho,hd1⟩|⟨t,e',ho,hd1⟩|⟨t,e',ho,hd1,he1,hne⟩
 ·exfalso;have e1:=hd d0 hd0;rw[hd1 d0 hd0]at e1;exact hn ⟨e1.symm,gq,fun d hd=>by rw[hd1 d hd];rfl⟩
 ·have hob:=h.obs id;rw[ho]at hob;obtain⟨u,h4,_⟩:=hob;rw[h1]at h4;cases h4
 ·have hob:=h.obs id;rw[ho]at hob;obtain⟨b',vs,h4,h5,h6,h7⟩:=hob;rw[h1]at h4;cases h4;obtain⟨pre,rest,hvs,h7⟩:=h7;have h6':∀u∈pre,one u=true:=fun u hu=>h6 u (by rw[hvs];exact bF _ hu)
  have hoks:=zn h6' h7;refine⟨_,cap,rfl,⟨h2,h3⟩,trivial,.inr ⟨b,0,rfl,Bz hd (vw hoks) fun j u hj=>?_⟩⟩;have hju:vs[j]?=some u:=by
   have:vs.toList[j]?=some u:=by rw[hvs,aT (aP.1 hj).1];exact hj
   simpa using this
  refine⟨by simp[World.cell?,h5,hju],?_,h6' u (bR hj)⟩;rintro(hO|hO)
  ·have:=h.low b (0+j) hO;rcases h.qb b (0+j) ⟨id,by rw[ho];exact h1⟩with h8|h8
   ·exact this.2 h8
   ·omega
  ·obtain⟨i,hi,hO⟩:=zq hO;exact hi (h.inj i id b hO.block (by unfold gw;rw[ho];exact h1))
mutual
theorem yu(h:Inv C β s w)(ho:wI s id ds):∀(x:AV)(v:Value),AV.ok β (C.gD β s) w x v->
 AV.ok (gC β id .no) (C.gD (gC β id .no) (rU id ds s)) w (x.mT id ds) v
 |.hM,v=>fun _=>by simp[AV.mT,AV.ok]
 |.d x,v=>fun hv=>by simp only[AV.mT,AV.ok]at hv⊢;exact wT hv
 |.own e j xs,v=>fun hv=>by
  simp only[AV.mT];split
  ·simp only[AV.ok]at hv⊢;exact wT hv.1
  ·rename_i hj;simp only[AV.ok]at hv⊢;obtain⟨h1,u,n,h2,h3⟩:=hv;exact⟨wT h1,u,n,by simpa[gC,hj]using h2,h3⟩
 |.ptr j off,v=>fun hv=>by
  simp only[AV.mT];split
  ·simp[AV.ok]
  ·rename_i hj;simp only[AV.ok]at hv⊢;obtain⟨b,h1,h2⟩:=hv;exact⟨b,by simpa[gC,hj]using h1,h2⟩
 |.mm e j off len,v=>fun hv=>by
  simp only[AV.mT];split
  ·rename_i hj;subst hj;split
   ·rename_i hc;obtain⟨rfl,hc,hc1⟩:=hc;simp only[AV.ok];rcases ho with⟨t,ho,hd⟩|⟨t,e,ho,hd⟩|⟨t,e,ho,hd,he1,hne⟩
    ·exact Od h ho hd hc hv
    ·have hob:=h.obs j;rw[ho]at hob;obtain⟨u,h4,_⟩:=hob;simp only[AV.ok]at hv;obtain⟨b,cap,h1,_⟩:=hv;rw[h1]at h4;cases h4
    ·obtain⟨d,hd'⟩:=List.exists_mem_of_ne_nil _ hne;exact absurd ((hd d hd').symm.trans (hc1 d hd')) he1
   ·rename_i hc1;split
    ·rename_i hc;obtain⟨rfl,rfl,hc⟩:=hc;simp only[AV.ok];exact Lh h ho hc hc1 hv
    ·simp[AV.ok]
  ·rename_i hj;simp only[AV.ok]at hv⊢;obtain⟨b,cap,h1,h2⟩:=hv;exact⟨b,cap,by simpa[gC,hj]using h1,h2⟩
 |.pv cs,v=>fun hv=>by
  simp only[AV.mT,AV.ok]at hv⊢;obtain⟨b,o,vs,h1,h2,h3⟩:=hv;exact⟨b,o,vs,h1,h2.mono (fun _ _ _ hc hn=>⟨hc,fun h=>hn (y_ h)⟩),vw h3⟩
 |.pa cs,v=>fun hv=>by
  simp only[AV.mT,AV.ok]at hv⊢;obtain⟨b,o,vs,h1,h2,h3⟩:=hv;exact⟨b,o,vs,h1,h2.mono (fun _ _ _ hc hn=>⟨hc,fun h=>hn (y_ h)⟩),uO h ho cs _ h3⟩
 |.agg cs,v=>fun hv=>by
  simp only[AV.mT,AV.ok]at hv⊢;obtain⟨vs,h1,h2,h3⟩:=hv;exact⟨vs,h1,h2,uO h ho cs _ h3⟩
 |.l_ cs,v=>fun hv=>by
  simp only[AV.mT,AV.ok]at hv⊢;obtain⟨vs,h1,h3⟩:=hv;exact⟨vs,h1,uO h ho cs _ h3⟩
 |.fn f a b,v=>fun hv=>by
  simp only[AV.mT,AV.ok]at hv⊢;obtain⟨fs,cs,h1,h2,h3⟩:=hv;exact⟨fs,cs,h1,uO h ho a _ h2,uO h ho b _ h3⟩
 |.jM e j n,v=>fun hv=>by
  simp only[AV.mT];split
  ·rename_i hj;subst hj;split
   ·rename_i hc;obtain⟨rfl,hc⟩:=hc;simp only[AV.ok];rcases ho with⟨t,ho,hd⟩|⟨t,e,ho,hd⟩|⟨t,e,ho,hd,he1,hne⟩
    ·have hob:=h.obs j;rw[ho]at hob;obtain⟨b,vs,h4,_⟩:=hob;simp only[AV.ok]at hv;obtain⟨u,m,h1,_⟩:=hv;rw[h4]at h1;exact h1.elim
    ·exact Oc h ho hc hv
    ·have hob:=h.obs j;rw[ho]at hob;obtain⟨b,vs,h4,_⟩:=hob;simp only[AV.ok]at hv;obtain⟨u,m,h1,_⟩:=hv;rw[h4]at h1;exact h1.elim
   ·simp[AV.ok]
  ·rename_i hj;simp only[AV.ok]at hv⊢;obtain⟨u,m,h1,h2⟩:=hv;exact⟨u,m,by simpa[gC,hj]using h1,h2⟩
 |.kH j k off,v=>fun hv=>by
  simp only[AV.mT];split
  ·simp[AV.ok]
  ·rename_i hj;simp only[AV.ok]at hv⊢;obtain⟨u,m,b,off',h1,h2⟩:=hv;exact⟨u,m,b,off',by simpa[gC,hj]using h1,h2⟩
 |.Ac e xs,v=>fun hv=>by
  simp only[AV.mT,AV.ok]at hv⊢;obtain⟨a,h1,h2⟩:=hv;exact⟨a,h1,wT h2⟩
 |.dp x,v=>fun _=>by simp[AV.mT,AV.ok]
 |.mp j,v=>fun hv=>by
  simp only[AV.mT];split
  ·simp[AV.ok]
  ·rename_i hj;simp only[AV.ok]at hv⊢;obtain⟨b,h1,h2⟩:=hv;exact⟨b,by simpa[gC,hj]using h1,h2⟩
theorem uO(h:Inv C β s w)(ho:wI s id ds):∀(xs:List AV)(vs:List Value),AV.gO β (C.gD β s) w xs vs->
 AV.gO (gC β id .no) (C.gD (gC β id .no) (rU id ds s)) w (AV.oz id ds xs) vs
 |[],vs=>fun hv=>by simpa[AV.oz,AV.gO]using hv
 |x::xs,vs=>fun hv=>by
  simp only[AV.oz,AV.gO]at hv⊢;obtain⟨v,r,h1,h2,h3⟩:=hv;exact⟨v,r,h1,yu h ho x v h2,uO h ho xs r h3⟩
end
theorem Inv.mT(h:Inv C β s w)(hid:C.k<=id)(ho:wI s id ds):Inv C (gC β id .no) (rU id ds s) w where
 size:=h.size
 io:=h.io
 keep:=h.keep
 sk:=h.sk
 qb:=fun b o ho=>let⟨i,_,h1⟩:=zq ho;h.qb b o ⟨i,h1⟩
 tH:=fun i b hb=>h.tH i b (wM hb).2
 pl:=fun i hi=>by
  have:i≠id:=by omega
  simpa[gC,this]using h.pl i hi
 low:=h.low
 obs:=fun i=>by
  rw[xu];by_cases hi:i=id
  ·subst hi;simp[tR,gC]
  ·simp only[hi,aI];have hob:=h.obs i;cases hs:sat s i with
   |dead=>rw[hs]at hob;simpa[Ob.mT,tR,gC,hi]using hob
   |obj t' cs=>
    rw[hs]at hob;obtain⟨b,vs,h1,h2,h0,h3⟩:=hob;exact⟨b,vs,by simpa[gC,hi]using h1,h2,h0,h3.imp fun _ hx=>uO h ho _ _ hx⟩
   |tok t' e n=>
    rw[hs]at hob;obtain⟨u,h1,h2⟩:=hob;exact⟨u,by simpa[gC,hi]using h1,h2⟩
   |ij t' e n cs=>
    rw[hs]at hob;obtain⟨u,h1,hl,h2⟩:=hob;refine⟨u,by simpa[gC,hi]using h1,hl,?_⟩;rcases h2 with h2|⟨b,cap,vs,k1,k2,k3,k4,k5,k6,pre,rest,k7,k8⟩
    ·exact .inl h2
    ·exact .inr ⟨b,cap,vs,k1,k2,k3,k4,k5,k6,pre,rest,k7,vw k8⟩
   |oh t' e n cs=>
    rw[hs]at hob;obtain⟨u,bs,h1,h0,h2⟩:=hob;refine⟨u,bs,by simpa[gC,hi]using h1,h0,?_⟩;rw[Ab];exact h2.imp (f:=AV.mT id ds) (β:=β) (O:=C.gD β s) (w:=w) (fun x v=>FM (yu h ho x v)) (fun _ _=>rfl) (fun _ _ _=>rfl)
   |tc e n cs=>
    rw[hs]at hob;obtain⟨u,bs,h1,h0,h2⟩:=hob;refine⟨u,bs,by simpa[gC,hi]using h1,h0,?_⟩;rw[Ab];exact h2.imp (f:=AV.mT id ds) (β:=β) (O:=C.gD β s) (w:=w) (fun x v=>FM (yu h ho x v)) (fun _ _=>rfl) (fun _ _ _ _=>rfl)
   |mp P k es=>
    rw[hs]at hob;obtain⟨b,h1,h2⟩:=hob;exact⟨b,by simpa[gC,hi]using h1,h2.imp rfl fun x v hx=>wT hx⟩
 inj:=fun i j b hi hj=>h.inj i j b (wM hi).2 (wM hj).2
end
theorem vb(id:Nat)(ds:List D):∀(xs:List AV)(i:Nat),(AV.oz id ds xs)[i]?=(xs[i]?).map (AV.mT id ds)
 |[],_=>by simp[AV.oz]
 |x::xs,0=>by simp[AV.oz]
 |x::xs,i+1=>by simp[AV.oz,vb id ds xs i]
theorem wU(id:Nat)(ds:List D):∀(xs:List AV),(AV.oz id ds xs).length=xs.length
 |[]=>rfl
 |x::xs=>by simp[AV.oz,wU id ds xs]
theorem gM.N9{k:Nat}{env:List AV}{s:gA}(id:Nat){ds:List D}(hid:k<=id)(ho:wI s id ds):
 gM k env s (AV.oz id ds env) (rU id ds s):=fun C β a w hC hst=>by
 subst hC;refine⟨gC β id .no,hst.defers,hst.inv.mT hid ho,by rw[wU,hst.len],fun i x hx=>?_⟩;rw[vb]at hx;cases hx2:env[i]? with
 |none=>rw[hx2]at hx;cases hx
 |some y=>rw[hx2]at hx;cases hx;exact yu hst.inv ho y _ (hst.env i y hx2)
def aD{α:Type}(f:α->D)(x:α):AV:=.d (f x)
theorem R1{α:Type}(f:α->D)(xs:List α):xs.map (aD f)=(xs.map f).map .d:=by rw[c_];rfl
theorem Og{α:Type}[Inhabited α]{f:α->D}{xs:List α}{i:Nat}(h:i<xs.length):(xs.map (aD f)).getD i .hM=.d (f (xs.getD i default)):=by simp[ak,bk,aA h,aD]
theorem MA{α:Type}{f:α->D}{xs:List α}{i:Nat}{v:α}(h:i<xs.length):List.take i (xs.map (aD f))++(AV.d (f v)::List.drop (i+1) (xs.map (aD f)))=(xs.set i v).map (aD f):=by
 rw[List.map_set,dP,ah (by simpa using h)];rfl
theorem BF{α:Type}[Inhabited α]{l:List D}{f:α->D}{xs:List α}(h:l=xs.map f){n:Nat}(hn:xs.length=n){i:Nat}{d:D}(hi:i<n):l.getD i d=f (xs.getD i default):=by subst h;exact getD_map' gq
theorem qL{α:Type}{f:α->D}{x:AV}{v:α}(h:AV.le x (.d (f v))):∀n,gV (List.replicate n [x]).flatten ((List.replicate n v).map (aD f))
 |0=>trivial
 |n+1=>by simp only[cp,aR,aZ,cg,bt];exact⟨h,qL h n⟩
theorem Dc{xs:List AV}:gV xs xs<->True:=⟨fun _=>trivial,fun _=>.refl _⟩
theorem BC{id:Nat}{ds:List D}:AV.mT id ds .hM=.hM:=by simp only[AV.mT]
theorem Lg{id:Nat}{ds:List D}{x:D}:AV.mT id ds (.d x)=.d x:=by simp only[AV.mT]
theorem DA{id e j:Nat}{ds xs:List D}:AV.mT id ds (.own e j xs)=if j=id then .d (.sl e none xs)else .own e j xs:=by simp only[AV.mT]
theorem DB{id j off:Nat}{ds:List D}:AV.mT id ds (.ptr j off)=if j=id then .hM else .ptr j off:=by simp only[AV.mT]
theorem z_{id e j off len:Nat}{ds:List D}(h:¬j=id):AV.mT id ds (.mm e j off len)=.mm e j off len:=by simp only[AV.mT,ay h]
class xC {α:Type} (f:α->D) (e:outParam Nat):Prop where
 len:∀x,(gx (f x)).length=e
theorem zc{α:Type}{id n:Nat}{f:α->D}[xC f 1]{xs:List α}(h:xs.length=n):AV.mT id (xs.map f) (.mm 1 id 0 n)=.d (gu 1 f xs):=by
 simp only[AV.mT,aO,bO];rw[ah ⟨trivial,by simp[h],by rintro d hd;obtain⟨x,_,rfl⟩:=aY.1 hd;exact xC.len x⟩,bZ (by simp[h])];rfl
theorem ES{α:Type}{id e n:Nat}{f:α->D}[xC f e]{xs:List α}(h:n=xs.length):AV.mT id (xs.map f) (.mm e id 0 n)=.d (gu e f xs):=by
 subst h;by_cases he:e=1
 ·subst he;exact zc rfl
 ·simp only[AV.mT,aO];rw[ay fun h=>he h.1,ah ⟨trivial,by simp,by rintro d hd;obtain⟨x,_,rfl⟩:=aY.1 hd;exact xC.len x⟩];rfl
theorem GA{id:Nat}{ds cs:List D}:AV.mT id ds (.pv cs)=.pv cs:=by simp only[AV.mT]
theorem Dz{id:Nat}{ds:List D}{cs:List AV}:AV.mT id ds (.agg cs)=.agg (AV.oz id ds cs):=by simp only[AV.mT]
theorem DC{id:Nat}{ds:List D}{cs:List AV}:AV.mT id ds (.l_ cs)=.l_ (AV.oz id ds cs):=by simp only[AV.mT]
theorem Gz{id f:Nat}{ds:List D}{a b:List AV}:AV.mT id ds (.fn f a b)=.fn f (AV.oz id ds a) (AV.oz id ds b):=by simp only[AV.mT]
theorem BD{id:Nat}{ds:List D}:AV.oz id ds []=[]:=by simp only[AV.oz]
theorem Aa{id:Nat}{ds:List D}{x:AV}{xs:List AV}:AV.oz id ds (x::xs)=AV.mT id ds x::AV.oz id ds xs:=by simp only[AV.oz]
theorem H6{α:Type}{id:Nat}{ds:List D}{f:α->D}:∀xs:List α,AV.oz id ds (xs.map (aD f))=xs.map (aD f)
 |[]=>by simp only[dx,AV.oz]
 |x::xs=>by simp only[aZ,AV.oz,H6 xs,aD,AV.mT]
theorem Il{α:Type}{ρ:Nat->Option Nat}{f:α->D}:∀xs:List α,AV.ia ρ (xs.map (aD f))=xs.map (aD f)
 |[]=>by simp only[dx,AV.ia]
 |x::xs=>by simp only[aZ,AV.ia,Il xs,aD,AV.jU]
theorem yc{P:Program}{k0 f:Nat}{args env:List AV}{s:gA}{d:Option Nat}{R:List AV->gA->Prop}{α:Type}(id:Nat){t:Nat}(g:α->D)(xs:List α)(hid:k0<=id)
 (ho:sat s id=.obj t (xs.map (aD g))) (hd:∀x,gx (g x)=[g x]) (h:kR P k0 f (AV.oz id (xs.map g) args) (AV.oz id (xs.map g) env) (rU id (xs.map g) s) d R):
 kR P k0 f args env s d R:=fun C β a w vs hC hst hvs=>by
 subst hC;have ho':sat s id=.obj t ((xs.map g).map .d):=by rw[ho,R1]
 have hd':∀d∈xs.map g,gx d=[d]:=fun d h=>by obtain⟨x,_,rfl⟩:=aY.1 h;exact hd x
 refine h C (gC β id .no) a w vs rfl ⟨hst.defers,hst.inv.mT hid (.inl ⟨t,ho',hd'⟩),by rw[wU,hst.len],fun i x hx=>?_⟩ (uO hst.inv (.inl ⟨t,ho',hd'⟩) _ _ hvs);rw[vb]at hx;cases hx2:env[i]? with
 |none=>rw[hx2]at hx;cases hx
 |some y=>rw[hx2]at hx;cases hx;exact yu hst.inv (.inl ⟨t,ho',hd'⟩) y _ (hst.env i y hx2)
attribute [go_sem] BC Lg DA DB z_ zc GA Dz DC Gz BD Aa H6 Il Ob.mT rU Og MA Dc List.flatten_cons List.flatten_nil Nat.mul_one List.length_set List.length_replicate
def gQ{α:Type}(f:α->D)(xs:List α):List D:=(xs.map f).flatMap gx
theorem vz{α:Type}{f:α->D}:gQ f []=[]:=rfl
theorem nc{α:Type}{f:α->D}{x:α}{xs:List α}:gQ f (x::xs)=gx (f x)++gQ f xs:=by simp[gQ]
theorem AE{α:Type}{f:α->D}{xs ys:List α}:gQ f (xs++ys)=gQ f xs++gQ f ys:=by simp[gQ]
theorem wW{α:Type}{f:α->D}{e:Nat}(he:∀x,(gx (f x)).length=e):∀xs:List α,(gQ f xs).length=xs.length*e
 |[]=>by simp[gQ]
 |x::xs=>by rw[nc,aj,he,wW he xs,ai,bC];omega
theorem CV{α:Type}{f:α->D}{e:Nat}(he:∀x,(gx (f x)).length=e):∀(xs:List α)(i k:Nat)[Inhabited α],i<xs.length->k<=e->
 List.drop (i*e+k) (gQ f xs)=(gx (f (xs.getD i default))).drop k++gQ f (xs.drop (i+1))
 |[],i,k,_,h,_=>by simp at h
 |x::xs,0,k,_,h,hk=>by
  rw[nc,en,aX,cq (by rw[he];exact hk)];simp
 |x::xs,i+1,k,_,h,hk=>by
  have e1:(i+1)*e+k=(gx (f x)).length+(i*e+k):=by rw[he,bC];omega
  rw[nc,e1,List.drop_append,bp gq,bt,eM,CV he xs i k (by simpa using h) hk];simp
theorem Jk{α:Type}[Inhabited α]{f:α->D}{e:Nat}(he:∀x,(gx (f x)).length=e){xs:List α}{i k:Nat}(hi:i<xs.length)(hk:k<e){d:D}:
 (gQ f xs).getD (i*e+k) d=(gx (f (xs.getD i default))).getD k d:=by
 have h:=CV he xs i k hi gq;have h1:(gQ f xs).getD (i*e+k) d=(List.drop (i*e+k) (gQ f xs)).getD 0 d:=by simp[ak]
 have h2:k<(gx (f (xs.getD i default))).length:=by rw[he];exact hk
 rw[h1,h];simp only[ak];rw[aT (by rw[bK,he];omega),cz];simp
theorem Inv.ID{C:Ctx}{β:gI}{s:gA}{w:World}(h:Inv C β s w){id t e:Nat}(ho:sat s id=.tok t e 0):
 Inv C β (sset s id (.ij t e 0 [])) w/\C.gD β (sset s id (.ij t e 0 []))=C.gD β s:=by
 have hown:∀b o,own β (sset s id (.ij t e 0 [])) b o<->own β s b o:=fun b o=>by
  unfold own;refine exists_congr fun i=>?_
  rw[iJ];by_cases hi:i=id
  ·subst hi;rw[ho];simp
  ·rw[ay hi]
 have hblk:∀i b,gw β (sset s id (.ij t e 0 [])) i b<->gw β s i b:=fun i b=>by
  unfold gw;rw[iJ];by_cases hi:i=id
  ·subst hi;rw[ho];simp
  ·rw[ay hi]
 have hf:C.gD β (sset s id (.ij t e 0 []))=C.gD β s:=by funext b o;exact propext (or_congr cE (hown b o))
 refine⟨⟨h.size,h.io,h.keep,h.sk,fun b o ho=>h.qb b o ((hown b o).1 ho),fun id b hb=>h.tH id b ((hblk id b).1 hb),h.pl,h.low,fun i=>?_,
  fun i j b hi hj=>h.inj i j b ((hblk i b).1 hi) ((hblk j b).1 hj)⟩,hf⟩
 rw[hf,iJ];have h1:=h.obs i;by_cases hi:i=id
 ·subst hi;rw[ho]at h1;obtain⟨u,h2,h3⟩:=h1;simp only[aO];refine⟨u,h2,by simp,?_⟩;rcases h3 with h3|⟨b,cap,vs,k1,k2,k3,k4,k5,k6⟩
  ·exact .inl h3
  ·exact .inr ⟨b,cap,vs,k1,k2,k3,k4,k5,k6,[],vs.toList,rfl,by simp[D.gO]⟩
 ·rw[ay hi];exact h1
theorem GD{C:Ctx}{β:gI}{O:Own}{s:gA}{w:World}(h:Inv C β s w){id t e e':Nat}(ho:sat s id=.tok t e' 0){v:Value}(hv:AV.ok β O w (.own e id []) v):
 AV.ok β O w (.jM e id 0) v:=by
 have h1:=h.obs id;rw[ho]at h1;obtain⟨u,h2,h3⟩:=h1;simp only[AV.ok]at hv⊢;obtain⟨_,u',n,h4,_,h6⟩:=hv;rw[h2]at h4;obtain⟨rfl,rfl⟩:=h4;have:=h6 rfl;subst this;refine⟨v,0,by rw[h2];exact⟨rfl,rfl⟩,au _,fun _=>rfl,?_⟩;rcases h3 with⟨h3,_⟩|⟨b,cap,vs,k1,k2,k3,k4,k5,k6⟩
 ·exact .inl ⟨none,h3,trivial⟩
 ·exact .inr ⟨b,cap,k1,k4,k5⟩
theorem gM.QT{k:Nat}{env:List AV}{s:gA}(i id t e:Nat){e0:Nat}(hd:sat s id=.dead)(hi:env[i]?=some (.d (.sl e0 (some true) []))):
 gM k env s (env.set i (.jM e id 0)) (sset (sset s id (.tok t e 0)) id (.ij t e 0 [])):=(gM.CJ i id t e hd hi).trans fun C β a w hC hst=>by
 have ho:sat (sset s id (.tok t e 0)) id=.tok t e 0:=by rw[iJ,ah rfl]
 obtain⟨h1,hf⟩:=hst.inv.ID ho;refine⟨β,hst.defers,h1,by rw[hst.len,dM,dM],fun j x hj=>?_⟩;rw[hf];rw[cH]at hj;split at hj
 ·rename_i hij;subst hij;split at hj
  ·rename_i hlt;cases hj;exact GD hst.inv ho (hst.env i _ (by rw[cH,ah rfl,ah hlt]))
  ·cases hj
 ·rename_i hij;exact hst.env j x (by rw[cH,ay hij];exact hj)
theorem wI.ij{α:Type}{s:gA}{id t e:Nat}(f:α->D)(xs:List α)(ho:sat s id=.ij t e xs.length (gQ f xs))(he:∀x,(gx (f x)).length=e):wI s id (xs.map f):=
 .inr (.inl ⟨t,e,by rw[aK];exact ho,fun d hd=>by obtain⟨x,_,rfl⟩:=aY.1 hd;exact he x⟩)
theorem gM.N_{α:Type}{k:Nat}{env:List AV}{s:gA}(id:Nat){t e:Nat}(f:α->D)(xs:List α)(hid:k<=id)(ho:sat s id=.ij t e xs.length (gQ f xs))(he:∀x,(gx (f x)).length=e):
 gM k env s (AV.oz id (xs.map f) env) (rU id (xs.map f) s):=gM.N9 id hid (.ij f xs ho he)
theorem Lj{α:Type}{id e:Nat}{f:α->D}(he:∀x,(gx (f x)).length=e){xs:List α}:AV.mT id (xs.map f) (.jM e id xs.length)=.d (gu e f xs):=by
 simp only[AV.mT,aO];rw[ah ⟨by simp,fun d hd=>by obtain⟨x,_,rfl⟩:=aY.1 hd;exact he x⟩];rfl
theorem zZ{id e j n:Nat}{ds:List D}(h:¬j=id):AV.mT id ds (.jM e j n)=.jM e j n:=by simp only[AV.mT,ay h]
theorem BB{id j k off:Nat}{ds:List D}:AV.mT id ds (.kH j k off)=if j=id then .hM else .kH j k off:=by simp only[AV.mT]
def gN(k:Nat)(x:AV)(s:gA)(y:AV)(t:gA):Prop:=∀(C:Ctx)(β:gI)(w:World)(v:Value),C.k=k->Inv C β s w->AV.ok β (C.gD β s) w x v->
 ∃β',Inv C β' t w/\AV.ok β' (C.gD β' t) w y v
theorem gN.refl{k:Nat}{x:AV}{s:gA}:gN k x s x s:=fun _ β _ _ _ h1 h2=>⟨β,h1,h2⟩
theorem gN.trans{k:Nat}{x y z:AV}{s t u:gA}(h1:gN k x s y t)(h2:gN k y t z u):gN k x s z u:=fun C β w v hC h3 h4=>let⟨β1,h5,h6⟩:=h1 C β w v hC h3 h4;h2 C β1 w v hC h5 h6
theorem gN.told{k:Nat}{x y:AV}{s t:gA}(hx:AV.le x y)(hs:ki s t):gN k x s y t:=fun C β w v _ h3 h4=>by
 obtain⟨h1,hf⟩:=h3.told hs.sat;exact⟨β,h1,by rw[hf];exact hx _ _ _ _ h4⟩
theorem gN.oc{k:Nat}{x:AV}{s:gA}(ids:List Nat)(hi:∀i∈ids,k<=i):gN k x s (yA ids x) (qX ids s):=fun C β w v hC h3 h4=>by
 subst hC;obtain⟨β1,h1,h2⟩:=h3.oc hi;exact⟨β1,h1,h2 _ _ h4⟩
theorem gN.mT{k:Nat}{x:AV}{s:gA}(id:Nat){ds:List D}(hid:k<=id)(ho:wI s id ds):gN k x s (x.mT id ds) (rU id ds s):=fun C β w v hC h3 h4=>by
 subst hC;exact⟨_,h3.mT hid ho,yu h3 ho _ _ h4⟩
theorem gG.done{P:Program}{f:Nat}{args:List AV}{s:gA}{k:Nat}{y:AV}{t:gA}(h:gG P f args s k fun x s'=>gN k x s' y t):gG P f args s k fun x s'=>x=y/\s'=t:=fun C vs h1 h2 h3 h4=>
 (h C vs h1 h2 h3 h4).mono fun _ w' ⟨v,_,β',_,e1,e2,e3,e4⟩=>let⟨β2,h5,h6⟩:=e4 C β' w' v h2 e2 e3;⟨v,y,β2,t,e1,h5,h6,rfl,rfl⟩
theorem kG.zT{P:Program}{f:Nat}{mc:gB}{n:Nat}{rs:List vG}(h:kG P f mc n rs){args:List AV}{s t:gA}{k:Nat}{y:AV}
 (hm:oZ P k mc (EM rs fun x s'=>gN k x s' y t) (args++List.replicate (n-args.length) .hM) s):gG P f args s k fun x s'=>x=y/\s'=t:=gG.done (h.calls hm)
theorem gG.then{P:Program}{f:Nat}{args:List AV}{s:gA}{k:Nat}{x y:AV}{u t:gA}(h:gG P f args s k fun x' s'=>x'=x/\s'=u)(hd:gN k x u y t):
 gG P f args s k fun x' s'=>x'=y/\s'=t:=gG.done fun C vs h1 h2 h3 h4=>
 (h C vs h1 h2 h3 h4).mono fun _ _ ⟨v,x',β',s',e1,e2,e3,e4,e5⟩=>⟨v,x',β',s',e1,e2,e3,by rw[e4,e5];exact hd⟩
def rQ(i j:Nat):Nat->Option Nat:=fun q=>if q=i then some j else if q=j then none else some q
def qa(i j:Nat)(β:gI):gI:=fun q=>if q=j then β i else if q=i then .no else β q
def qo(i j:Nat)(ob:Ob):gA->gA
 |[]=>[(j,ob)]
 |(q,x)::r=>if q=i\/q=j then qo i j ob r else(q,x.jU (rQ i j))::qo i j ob r
theorem Aq(i j:Nat)(ob:Ob)(q:Nat):∀s:gA,sat (qo i j ob s) q=if q=j then ob else if q=i then .dead else(sat s q).jU (rQ i j)
 |[]=>by by_cases h:q=j<;>simp[qo,sat,h,Ob.jU]
 |(p,x)::r=>by
  simp only[qo];by_cases hp:p=i\/p=j
  ·rw[ah hp,Aq i j ob q r];by_cases h1:q=j
   ·simp[h1]
   ·by_cases h2:q=i
    ·simp[h2]
    ·have:q≠p:=by rintro rfl;exact hp.elim h2 h1
     simp only[h1,h2,aI,sat,this]
  ·rw[ay hp];simp only[sat,Aq i j ob q r];by_cases h1:q=p
   ·subst h1;have h2:¬q=i:=fun e=>hp (.inl e)
    have h3:¬q=j:=fun e=>hp (.inr e)
    simp[h2,h3]
   ·simp[h1]
theorem Inv.U1{C:Ctx}{β:gI}{s s':gA}{w:World}(h:Inv C β s w){i j:Nat}(hi:C.k<=i)(hj:C.k<=j)(hij:i≠j)(hd:sat s j=.dead)
 (hs:∀q,sat s' q=if q=j then(sat s i).jU (rQ i j)else if q=i then .dead else(sat s q).jU (rQ i j)):
 Inv C (qa i j β) s' w/\∀x v,AV.ok β (C.gD β s) w x v->AV.ok (qa i j β) (C.gD (qa i j β) s') w (x.jU (rQ i j)) v:=by
 have from_:∀q,(q=i/\sat s' q=.dead)\/∃p,sat s' q=(sat s p).jU (rQ i j)/\qa i j β q=β p/\(p=if q=j then i else q):=fun q=>by
  by_cases h1:q=j
  ·subst h1;exact .inr ⟨i,by rw[hs,ah rfl],by simp[qa],by simp⟩
  ·by_cases h2:q=i
   ·subst h2;exact .inl ⟨rfl,by rw[hs,ay h1,ah rfl]⟩
   ·exact .inr ⟨q,by rw[hs,ay h1,ay h2],by simp[qa,h1,h2],by simp[h1]⟩
 have hown:∀b o,own (qa i j β) s' b o<->own β s b o:=fun b o=>by
  constructor
  ·rintro⟨q,hq⟩;rcases from_ q with⟨_,h1⟩|⟨p,h1,h2,_⟩
   ·rw[h1]at hq;exact hq.elim
   ·exact⟨p,(qT (i:=p) (j:=q) h2 h1).1 hq⟩
  ·rintro⟨p,hp⟩;by_cases h1:p=i
   ·subst h1;exact⟨j,(qT (i:=p) (j:=j) (ρ:=rQ p j) (by simp[qa]) (by rw[hs,ah rfl])).2 hp⟩
   ·by_cases h2:p=j
    ·subst h2;rw[hd]at hp;exact hp.elim
    ·exact⟨p,(qT (i:=p) (j:=p) (ρ:=rQ i j) (by simp[qa,h1,h2]) (by rw[hs,ay h2,ay h1])).2 hp⟩
 have hblk:∀q b,gw (qa i j β) s' q b->∃p,gw β s p b/\(p=if q=j then i else q)/\(q=j\/q≠i):=fun q b hq=>by
  rcases from_ q with⟨_,h1⟩|⟨p,h1,h2,h3⟩
  ·unfold gw at hq;rw[h1]at hq;exact hq.elim
  ·refine⟨p,(uW h2 h1).1 hq,h3,?_⟩;by_cases h4:q=j
   ·exact .inl h4
   ·refine .inr fun h5=>?_
    subst h5;unfold gw at hq;rw[hs,ay h4,ah rfl]at hq;exact hq.elim
 have hf:C.gD (qa i j β) s'=C.gD β s:=by funext b o;exact propext (or_congr cE (hown b o))
 have hρ:∀a b,rQ i j a=some b->qa i j β b=β a:=fun a b hab=>by
  unfold rQ at hab;split at hab
  ·rename_i h1;cases hab;subst h1;simp[qa]
  ·split at hab
   ·cases hab
   ·rename_i h1 h2;cases hab;simp[qa,h1,h2]
 refine⟨⟨h.size,h.io,h.keep,h.sk,fun b o ho=>h.qb b o ((hown b o).1 ho),fun q b hb=>let⟨p,hp,_⟩:=hblk q b hb;h.tH p b hp,fun q hq=>?_,h.low,fun q=>?_,fun q q' b h1 h2=>?_⟩,
  fun x v hx=>by rw[hf];exact AV.vf hρ x v hx⟩
 ·have h1:q≠i:=by omega
  have h2:q≠j:=by omega
  simpa[qa,h1,h2]using h.pl q hq
 ·rw[hf];rcases from_ q with⟨h0,h1⟩|⟨p,h1,h2,_⟩
  ·rw[h1];subst h0;simp[tR,qa,hij]
  ·rw[h1];have ho:=h.obs p;cases hp:sat s p with
   |dead=>rw[hp]at ho;exact h2.trans ho
   |obj t cs=>rw[hp]at ho;obtain⟨b,vs,k1,k2,k3,k4⟩:=ho;exact⟨b,vs,h2.trans k1,k2,k3,k4.imp fun _ hx=>AV.tW hρ _ _ hx⟩
   |tok t e n=>rw[hp]at ho;obtain⟨u,k1,k2⟩:=ho;exact⟨u,h2.trans k1,k2⟩
   |ij t e n cs=>rw[hp]at ho;obtain⟨u,k1,k2⟩:=ho;exact⟨u,h2.trans k1,k2⟩
   |oh t e n cs=>
    rw[hp]at ho;obtain⟨u,bs,k1,k0,k2⟩:=ho;refine⟨u,bs,h2.trans k1,k0,?_⟩;show Ee _ _ _ _ _ _ _ _ (AV.ia _ cs);rw[nh];exact k2.imp (fun x v=>qp fun hx=>AV.vf hρ _ _ hx) (fun _ _=>rfl) (fun _ _ _=>rfl)
   |tc e n cs=>
    rw[hp]at ho;obtain⟨u,bs,k1,k0,k2⟩:=ho;refine⟨u,bs,h2.trans k1,k0,?_⟩;show Ef _ _ _ _ _ _ _ (AV.ia _ cs);rw[nh];exact k2.imp (fun x v=>qp fun hx=>AV.vf hρ _ _ hx) (fun _ _=>rfl) (fun _ _ _ _=>rfl)
   |mp P k es=>rw[hp]at ho;obtain⟨b,k1,k2⟩:=ho;exact⟨b,h2.trans k1,k2⟩
 ·obtain⟨p,hp,e1,e2⟩:=hblk q b h1;obtain⟨p',hp',e3,e4⟩:=hblk q' b h2;have:=h.inj p p' b hp hp';subst this;rw[e1]at e3;by_cases h5:q=j<;>by_cases h6:q'=j<;>simp[h5,h6]at e3 e2 e4⊢<;>first|exact e3|exact absurd e3.symm e4|exact absurd e3 e2|skip
theorem gN.move{k:Nat}{x:AV}{s:gA}(i j:Nat){ob:Ob}(hi:k<=i)(hj:k<=j)(hij:i≠j)(hd:sat s j=.dead)(ho:(sat s i).jU (rQ i j)=ob):
 gN k x s (x.jU (rQ i j)) (qo i j ob s):=fun C β w v hC h3 h4=>by
 subst hC;obtain⟨h5,h6⟩:=h3.U1 (s':=qo i j ob s) hi hj hij hd fun q=>by rw[Aq,ho]
 exact⟨_,h5,h6 x v h4⟩
class AL {α:Type} (f:α->D):Prop where
 one:∀x,gx (f x)=[f x]
instance:xC iD 1:=⟨fun _=>rfl⟩
instance:xC bD 1:=⟨fun _=>rfl⟩
instance{k:IntKind}:xC (kD k) 1:=⟨fun _=>rfl⟩
instance:xC sD 1:=⟨fun _=>rfl⟩
instance{α:Type}{e:Nat}{f:α->D}:xC (gu e f) 1:=⟨fun _=>rfl⟩
instance:AL iD:=⟨fun _=>rfl⟩
instance:AL bD:=⟨fun _=>rfl⟩
instance{k:IntKind}:AL (kD k):=⟨fun _=>rfl⟩
instance:AL sD:=⟨fun _=>rfl⟩
instance{α:Type}{e:Nat}{f:α->D}:AL (gu e f):=⟨fun _=>rfl⟩
section
variable{α:Type}[Inhabited α]{f:α->D}{e:Nat}{xs ys:List α}{i k n:Nat}{y:α}{d:D}{ds:List D}
theorem EV[xC f e](hi:i<xs.length)(hk:0<e):(gQ f xs).getD (i*e) d=(gx (f (xs.getD i default))).getD 0 d:=Jk (k:=0) xC.len hi hk
theorem Lq[xC f 1](hi:i<xs.length):(gQ f xs).getD i d=(gx (f (xs.getD i default))).getD 0 d:=by have:=EV (f:=f) (e:=1) (d:=d) hi gq;rwa [eU]at this
omit [Inhabited α]in
theorem Oj[xC f e]:(gQ f xs).length=xs.length*e:=wW xC.len xs
omit [Inhabited α]in
theorem Lp:List.flatMap gx (List.map f ys)=gQ f ys:=rfl
omit [Inhabited α]in
theorem Oi:gQ f xs++gQ f ys=gQ f (xs++ys):=AE.symm
omit [Inhabited α]in
theorem H7[AL f]:gQ f xs=xs.map f:=by
 induction xs with
 |nil=>rfl
 |cons x xs ih=>rw[nc,AL.one,ih];rfl
omit [Inhabited α]in
theorem Jm[AL f]:gQ f xs++f y::ds=gQ f (xs++[y])++ds:=by rw[AE,nc,AL.one,vz,aL];rfl
omit [Inhabited α]in
theorem EW[AL f](hi:i<xs.length):List.take i (gQ f xs)++f y::List.drop (i+1) (gQ f xs)=gQ f (xs.set i y):=by rw[H7,H7,List.map_set,dP,ah (by simpa using hi)]
omit [Inhabited α]in
theorem Jl[AL f](hi:i<xs.length):List.take i (gQ f xs)++[f y]++List.drop (i+1) (gQ f xs)=gQ f (xs.set i y):=by rw[aL];exact EW hi
omit [Inhabited α]in
theorem Li[xC f e]{id:Nat}:AV.mT id (xs.map f) (.jM e id xs.length)=.d (gu e f xs):=Lj xC.len
omit [Inhabited α]in
theorem gM.N8[xC f e]{k0 t:Nat}{env:List AV}{s:gA}(id:Nat)(f':α->D)(hf:f'=f)(xs:List α)(hid:k0<=id)(ho:sat s id=.ij t e xs.length (gQ f xs)):
 gM k0 env s (AV.oz id (xs.map f') env) (rU id (xs.map f') s):=by subst hf;exact gM.N_ id f' xs hid ho xC.len
omit [Inhabited α]in
theorem gN.Wn[xC f e]{k0 t:Nat}{x:AV}{s:gA}(id:Nat)(f':α->D)(hf:f'=f)(xs:List α)(hid:k0<=id)(ho:sat s id=.ij t e xs.length (gQ f xs)):
 gN k0 x s (x.mT id (xs.map f')) (rU id (xs.map f') s):=by subst hf;exact gN.mT id hid (.ij f' xs ho xC.len)
end
attribute [go_sem] EV Lq Oj Lp Oi Jm EW Jl nc vz
attribute [go_sem] zZ BB
theorem I_{e id n:Nat}:AV.cells (.jM e id n)=some [.jM e id n]:=rfl
theorem Gp{id k off:Nat}:AV.cells (.kH id k off)=some [.kH id k off]:=rfl
theorem MQ{e id n:Nat}{xs:List AV}:AV.qc (.jM e id n::xs)=none:=rfl
theorem J2{id k off:Nat}{xs:List AV}:AV.qc (.kH id k off::xs)=none:=rfl
attribute [go_sem] I_ Gp MQ J2 rQ qo
theorem gG.Ta{P:Program}{f:Nat}{args:List AV}{s:gA}{k:Nat}{z:AV}(h:gG P f args s k fun x s'=>∃y t,gN k x s' y t/\AV.le y z):gG P f args s k fun x _=>x=z:=fun C vs h1 h2 h3 h4=>
 (h C vs h1 h2 h3 h4).mono fun _ w' ⟨v,_,β',_,e1,e2,e3,_,t,e4,e5⟩=>let⟨β2,h5,h6⟩:=e4 C β' w' v h2 e2 e3;⟨v,z,β2,t,e1,h5,e5 _ _ _ _ h6,rfl⟩
theorem kG.U3{P:Program}{f:Nat}{mc:gB}{n:Nat}{rs:List vG}(h:kG P f mc n rs){args:List D}{r:D}
 (hm:oZ P 0 mc (EM rs fun x s'=>∃y t,gN 0 x s' y t/\AV.le y (.d r)) (args.map .d++List.replicate (n-(args.map AV.d).length) .hM) []):iw P f args r:=gG.Ta (h.calls hm)
theorem EU{C:Ctx}{β:gI}{O:Own}{s:gA}{w:World}(h:Inv C β s w){id t e e':Nat}{cs:List D}(ho:sat s id=.ij t e' 0 cs){v:Value}(hv:AV.ok β O w (.own e id []) v):
 AV.ok β O w (.jM e id 0) v:=by
 have h1:=h.obs id;rw[ho]at h1;obtain⟨u,h2,_,h3⟩:=h1;simp only[AV.ok]at hv⊢;obtain⟨_,u',n,h4,_,h6⟩:=hv;rw[h2]at h4;obtain⟨rfl,rfl⟩:=h4;have:=h6 rfl;subst this;refine⟨v,0,by rw[h2];exact⟨rfl,rfl⟩,au _,fun _=>rfl,?_⟩;rcases h3 with⟨h3,_⟩|⟨b,cap,vs,k1,k2,k3,k4,k5,_⟩
 ·exact .inl ⟨none,h3,trivial⟩
 ·exact .inr ⟨b,cap,k1,k4,k5⟩
theorem gM.ID{k:Nat}{env:List AV}{s:gA}{id t e:Nat}(ho:sat s id=.tok t e 0):gM k env s env (sset s id (.ij t e 0 [])):=fun _ β _ _ _ hst=>by
 obtain⟨h1,hf⟩:=hst.inv.ID ho;exact⟨β,hst.defers,h1,hst.len,fun j x hj=>by rw[hf];exact hst.env j x hj⟩
theorem gM.S_{k:Nat}{env:List AV}{s:gA}{o j id t t' e e':Nat}{cs:List AV}{ds:List D}(ho:sat s o=.obj t' cs)(hj:cs[j]?=some (.own e id []))(hi:sat s id=.ij t e' 0 ds):
 gM k env s env (sset s o (.obj t' (cs.set j (.jM e id 0)))):=fun _ β _ _ _ hst=>
 ⟨β,hst.Mm ho fun _ hv=>DP hj (fun _ hv=>EU hst.inv hi hv) hv⟩
theorem gM.JZ{k:Nat}{env:List AV}{s:gA}(o j id t e:Nat){e0 t':Nat}{cs:List AV}(hd:sat s id=.dead)(ho:sat s o=.obj t' cs)(hj:cs[j]?=some (.d (.sl e0 (some true) []))):
 gM k env s env (sset (sset s id (.ij t e 0 [])) o (.obj t' (cs.set j (.jM e id 0)))):=by
 have hoi:o≠id:=by rintro rfl;rw[hd]at ho;cases ho
 have hjl:j<cs.length:=(aP.1 hj).1;refine(gM.Ch o j id t e hd ho hj).trans ((gM.ID (id:=id) (t:=t) (e:=e) (by rw[iJ,ay (Ne.symm hoi),iJ,ah rfl])).trans
  ((gM.S_ (o:=o) (j:=j) (id:=id) (t:=t) (t':=t') (e:=e) (e':=e) (cs:=cs.set j (.own e id [])) (ds:=[]) (by rw[iJ,ay hoi,iJ,ah rfl])
   (by rw[cH,ah rfl,ah hjl]) (by rw[iJ,ah rfl])).trans (gM.SQ fun q=>?_)))
 rw[List.set_set];simp only[iJ];by_cases h1:q=o
 ·simp[h1]
 ·by_cases h2:q=id<;>simp[h1,h2]
section
variable{α:Type}{f:α->D}{e:Nat}{xs:List α}
theorem zb[xC f e]{id n:Nat}(h:n=xs.length):AV.mT id (xs.map f) (.jM e id n)=.d (gu e f xs):=by subst h;exact Li
theorem gM.Oa[xC f e]{k0 t n:Nat}{env:List AV}{s:gA}{ds:List D}(id:Nat)(f':α->D)(hf:f'=f)(xs:List α)(hid:k0<=id)(ho:sat s id=.ij t e n ds)(hn:n=xs.length)(hs:ds=gQ f xs):
 gM k0 env s (AV.oz id (xs.map f') env) (rU id (xs.map f') s):=by subst hn;subst hs;exact gM.N8 id f' hf xs hid ho
theorem gN.Wo[xC f e]{k0 t n:Nat}{x:AV}{s:gA}{ds:List D}(id:Nat)(f':α->D)(hf:f'=f)(xs:List α)(hid:k0<=id)(ho:sat s id=.ij t e n ds)(hn:n=xs.length)(hs:ds=gQ f xs):
 gN k0 x s (x.mT id (xs.map f')) (rU id (xs.map f') s):=by subst hn;subst hs;exact gN.Wn id f' hf xs hid ho
end
attribute [go_sem] zb
theorem Tf{d:D}{ds:List D}:List.flatMap gx (d::ds)=gx d++List.flatMap gx ds:=bH
theorem Tg:List.flatMap gx []=[]:=rfl
attribute [go_sem] Tf Tg
def gz{α:Type}(t:Prop)(x:Option α)(P:α->Prop):Prop:=(∀a,x=some a->P a)/\(t->∃a,x=some a)
theorem gz.some{α:Type}{t:Prop}{a:α}{P:α->Prop}(h:P a):gz t (Option.some a) P:=⟨fun b hb=>by cases hb;exact h,fun _=>⟨a,rfl⟩⟩
theorem gz.bind{α β:Type}{t:Prop}{x:Option α}{f:α->Option β}{P:α->Prop}{Q:β->Prop}(h:gz t x P)(hf:∀a,P a->gz t (f a) Q):gz t (x.bind f) Q:=
 ⟨fun b hb=>let⟨a,h1,h2⟩:=aB.1 hb;(hf a (h.1 a h1)).1 b h2,fun ht=>by
  obtain⟨a,ha⟩:=h.2 ht;obtain⟨b,hb⟩:=(hf a (h.1 a ha)).2 ht;exact⟨b,by rw[ha,aa,hb]⟩⟩
theorem gz.need{α:Type}{t p:Prop}[Decidable p]{x:Option α}{P:α->Prop}(hp:p)(h:gz t x P):gz t (if p then x else none) P:=by rw[ah hp];exact h
theorem gz.ite{α:Type}{t:Prop}{c:Bool}{x y:Option α}{P:α->Prop}(h1:c=true->gz t x P)(h2:c=false->gz t y P):gz t (if c=true then x else y) P:=by
 cases c with
 |true=>simpa using h1 rfl
 |false=>simpa using h2 rfl
theorem gz.mono{α:Type}{t:Prop}{x:Option α}{P Q:α->Prop}(h:gz t x P)(hq:∀a,P a->Q a):gz t x Q:=⟨fun a ha=>hq a (h.1 a ha),h.2⟩
theorem gz.weak{α:Type}{t t':Prop}{x:Option α}{P:α->Prop}(h:gz t x P)(ht:t'->t):gz t' x P:=⟨h.1,fun hx=>h.2 (ht hx)⟩
theorem gz.inr{σ β:Type}{t:Prop}{x:Option β}{P:σ⊕β->Prop}(h:gz t x fun b=>P (.inr b)):gz t (x.map Sum.inr) P:=
 ⟨fun a ha=>by
  cases x with
  |none=>cases ha
  |some b=>cases ha;exact h.1 b rfl,fun ht=>let⟨a,ha⟩:=h.2 ht;⟨.inr a,by rw[ha];rfl⟩⟩
theorem gz.eq{α:Type}{x:Option α}{a:α}(h:gz True x (·=a)):x=Option.some a:=by obtain⟨b,hb⟩:=h.2 trivial;rw[hb,h.1 b hb]
theorem gz.of{α:Type}{t:Prop}{x:Option α}{a:α}{P:α->Prop}(h:x=Option.some a)(hp:P a):gz t x P:=by rw[h];exact .some hp
theorem gz.get{α:Type}{x:Option α}{P:α->Prop}(h:gz True x P):∃a,x=Option.some a/\P a:=by obtain⟨b,hb⟩:=h.2 trivial;exact⟨b,hb,h.1 b hb⟩
theorem gz.Q_{α β:Type}{t:Prop}{xs:List α}{a b:Option β}{P:β->Prop}(h:gz t b P)(he:xs=[]->a=b):gz t (Ky xs a b) P:=by
 unfold Ky;split
 ·rename_i hx;rw[ah (he hx)];exact h
 ·exact h
def tj{σ β:Type}(inv:σ->Prop)(μ:σ->Nat)(Q:β->Prop)(m:Nat):σ⊕β->Prop
 |.inl s'=>inv s'/\μ s'<m
 |.inr b=>Q b
theorem gz.loop{σ β:Type}{t:Prop}{f:σ->Option (σ⊕β)}{Q:β->Prop}(inv:σ->Prop)(μ:σ->Nat){s:σ}(h0:inv s)(h:∀s,inv s->gz t (f s) (tj inv μ Q (μ s))):gz t (gF f s) Q:=by
 constructor
 ·intro b hb;obtain⟨n,hn⟩:=vV hb;clear hb;induction n generalizing s with
  |zero=>exact hn.elim
  |succ n ih=>
   rcases hn with hn|⟨s',hs,hn⟩
   ·exact(h s h0).1 _ hn
   ·exact ih ((h s h0).1 _ hs).1 hn
 ·intro ht;have key:∀n s,μ s=n->inv s->∃b,gF f s=Option.some b:=by
   intro n;induction n using Nat.strongRecOn with
   |_ n ih=>
    intro s hn hs;obtain⟨r,hr⟩:=(h s hs).2 ht;have:=(h s hs).1 r hr;cases r with
    |inl s'=>obtain⟨b,hb⟩:=ih (μ s') (hn▸this.2) s' rfl this.1;exact⟨b,by rw[qR hr,hb]⟩
    |inr b=>exact⟨b,oN hr⟩
  exact key _ s rfl h0
theorem gz.lim{α:Type}{t:Prop}{f:Nat->Option α}{P:α->Prop}(m:Nat)(h:∀n,gz (m<=n) (f n) P):gz t (yz f) P:=by
 constructor
 ·intro a ha;obtain⟨n,hn⟩:=ng ha;exact(h n).1 a hn
 ·intro _;obtain⟨a,ha⟩:=(h m).2 (au _);have hx:∃a n,f n=Option.some a:=⟨a,m,ha⟩;unfold yz;rw[dif_pos hx];exact⟨_,rfl⟩
def rY{α:Type}(e:Nat)(f:α->D)(xs:List α):D:=.sl e (some xs.isEmpty) (xs.map f)
section
variable{α:Type}{e id:Nat}{f:α->D}{xs:List α}{O:Own}{w:World}
theorem O6:pN (.d (rY e f xs))=some (e,xs.map f):=rfl
theorem OH:xb (.d (rY e f xs))=some xs.isEmpty:=rfl
theorem Jc:AV.cells (.d (rY e f xs))=some [.d (rY e f xs)]:=rfl
theorem F0:AV.Ba (.d (rY e f xs))=none:=rfl
theorem Gu:gx (rY e f xs)=[rY e f xs]:=rfl
theorem DL.nz(h:0<xs.length):DL (gu e f xs) (rY e f xs):=fun O w v hv=>by
 simp only[gu,rY,D.ok]at hv⊢;obtain⟨a,cap,h1,h2,_,h4⟩:=hv;refine⟨a,cap,h1,h2,?_,h4⟩;have hne:xs≠[]:=bQ.1 h;have he:xs.isEmpty=false:=by simpa using hne
 rcases h4 with h4|⟨b,o,rfl,_⟩
 ·exact absurd (List.map_eq_nil_iff.1 h4) hne
 ·simp[IG,he]
theorem DL.QJ:DL (rY e f xs) (gu e f xs):=DL.forget
theorem DL.R7{e':Nat}:DL (.sl e' (some true) []) (rY e f []):=fun O w v hv=>by
 simp only[rY,D.ok,dx]at hv⊢;obtain⟨a,cap,h1,h2,h3,h4⟩:=hv;exact⟨a,cap,h1,h2,h3,.inl trivial⟩
theorem A1(h:0<xs.length):AV.le (.d (gu e f xs)) (.d (rY e f xs))<->True:=⟨fun _=>trivial,fun _=>AV.vT (DL.nz h)⟩
theorem yy(h:0<xs.length):AV.le (.own e id (xs.map f)) (.d (rY e f xs))<->True:=⟨fun _=>trivial,fun _=>AV.Ou fun O w v hv=>DL.nz h O w v hv⟩
theorem vU{e':Nat}:AV.le (.d (.sl e' (some true) [])) (.d (rY e f []))<->True:=⟨fun _=>trivial,fun _=>AV.vT DL.R7⟩
theorem xR:AV.le (.d (rY e f xs)) (.d (gu e f xs))<->True:=⟨fun _=>trivial,fun _=>AV.vT DL.QJ⟩
end
instance{α:Type}{e:Nat}{f:α->D}:xC (rY e f) 1:=⟨fun _=>rfl⟩
instance{α:Type}{e:Nat}{f:α->D}:AL (rY e f):=⟨fun _=>rfl⟩
theorem gV.set:∀{xs:List AV}{i:Nat}{a b:AV},AV.le a b->gV (xs.set i a) (xs.set i b)
 |[],_,_,_,_=>trivial
 |_::xs,0,_,_,h=>⟨h,.refl xs⟩
 |x::_,i+1,_,_,h=>⟨AV.le_refl x,gV.set h⟩
theorem Ow{α:Type}{f:α->D}{xs:List α}{i:Nat}{a:AV}{v:α}(h:i<xs.length)(hle:AV.le a (.d (f v))):
 gV (List.take i (xs.map (aD f))++(a::List.drop (i+1) (xs.map (aD f)))) ((xs.set i v).map (aD f)):=by
 have e1:List.take i (xs.map (aD f))++(a::List.drop (i+1) (xs.map (aD f)))=(xs.map (aD f)).set i a:=by rw[dP,ah (by simpa using h)]
 rw[e1,List.map_set];exact gV.set hle
attribute [go_sem] O6 OH Jc F0 Gu xR vU
theorem kW{α β:Type}{f:α->β}{l:List α}{n:Nat}:List.take n (List.map f l)=List.map f (List.take n l):=List.map_take.symm
theorem kV{α β:Type}{f:α->β}{l:List α}{n:Nat}:List.drop n (List.map f l)=List.map f (List.drop n l):=List.map_drop.symm
theorem lZ{α:Type}{l:List α}{n:Nat}(h:l.length<=n):List.take n l=l:=bZ h
theorem lX{α:Type}{l:List α}{n:Nat}(h:l.length<=n):List.drop n l=[]:=bp h
theorem CI:ki [] []:=trivial
theorem wE{i:Nat}{x y:Ob}{r r':gA}(h:vI x y)(hr:ki r r'):ki ((i,x)::r) ((i,y)::r'):=⟨rfl,h,hr⟩
theorem BS{α:Type}{f:α->D}{xs:List α}{i:Nat}{a:AV}{v:α}(h:i<xs.length)(hle:AV.le a (.d (f v))):
 gV (List.map (aD f) (List.take i xs)++[a]++List.map (aD f) (List.drop (i+1) xs)) ((xs.set i v).map (aD f)):=by
 have:=Ow (f:=f) (xs:=xs) (i:=i) (a:=a) (v:=v) h hle;rw[aL];simpa only[List.map_take,List.map_drop,cg,bt]using this
theorem Ry:gV [] []:=trivial
theorem Rx{x y:AV}{xs ys:List AV}(h:AV.le x y)(h':gV xs ys):gV (x::xs) (y::ys):=⟨h,h'⟩
theorem Rv:o_ [] []:=trivial
theorem Ru{x y:D}{xs ys:List D}(h:D.le x y)(h':o_ xs ys):o_ (x::xs) (y::ys):=⟨h,h'⟩
theorem vR{e e':Nat}{nl:Option Bool}:D.le (.sl e nl []) (.sl e' none []):=fun O w vs h=>by
 simp only[D.Dn]at h⊢;obtain⟨v,h1,h2⟩:=h;exact⟨v,h1,DL.nil _ _ _ h2⟩
theorem qJ{e:Nat}{nl:Option Bool}{xs:List D}:D.le (.sl e nl xs) (.sl e none xs):=fun O w vs h=>by
 simp only[D.Dn]at h⊢;obtain⟨v,h1,h2⟩:=h;exact⟨v,h1,DL.forget _ _ _ h2⟩
theorem vQ{xs ys:List D}(h:Q6 xs ys):D.le (.agg xs) (.agg ys):=fun O w vs hv=>by
 simp only[D.Dn]at hv⊢;exact h.gO hv
theorem GK{α:Type}{e:Nat}{f:α->D}{xs:List α}:AV.le (.d (rY e f xs)) (.d (.sl e none (xs.map f)))<->True:=⟨fun _=>trivial,fun _=>AV.vT DL.QJ⟩
attribute [go_sem] GK
theorem Ue{α:Type}{x:AV}{f:α->D}{v:α}:AV.le x (aD f v)=AV.le x (.d (f v)):=(rfl)
theorem Iu{α:Type}{f:α->D}{xs:List α}{i:Nat}{v:α}(h:i<xs.length):List.map (aD f) (List.take i xs)++(AV.d (f v)::List.map (aD f) (List.drop (i+1) xs))=(xs.set i v).map (aD f):=by rw[List.map_take,List.map_drop];exact MA h
theorem MB{α:Type}{f:α->D}{xs:List α}{i:Nat}{v:α}(h:i<xs.length):List.map (aD f) (List.take i xs)++[AV.d (f v)]++List.map (aD f) (List.drop (i+1) xs)=(xs.set i v).map (aD f):=by rw[aL];exact Iu h
attribute [go_sem] Ue Iu MB
theorem gW{p q:Prop}(hq:q)(h:p=q:=by first|((conv=>lhs;simp(maxSteps:=1000000) (disch:=omega)only[go_sem,kW,kV,lZ,lX,bO,bf,bt,Nat.reduceAdd,Nat.reduceSub,Nat.reduceLeDiff,Nat.reduceEqDiff,Nat.reduceLT,Int.reduceToNat,reduceIte,reduceCtorEq])<;>rfl)|rfl):p:=h▸hq
theorem MJ{c p q:Prop}(hc:c)(hq:q)(h:p=q:=by first|((conv=>lhs;simp(maxSteps:=1000000) (disch:=omega)only[go_sem,kW,kV,lZ,lX,bO,bf,bt,Nat.reduceAdd,Nat.reduceSub,Nat.reduceLeDiff,Nat.reduceEqDiff,Nat.reduceLT,Int.reduceToNat,reduceIte,reduceCtorEq,hc])<;>rfl)|rfl):p:=h▸hq
theorem lH{p:Prop}(h:p:=by first|(simp only[go_sem,gu,aS,List.map_take,List.map_drop,aL,Nat.reduceAdd,Nat.reduceSub,Nat.reduceLeDiff,Nat.reduceEqDiff,Nat.reduceLT,reduceIte,reduceCtorEq];done)|((try simp only[go_sem,gu,aS,List.map_take,List.map_drop,aL,Nat.reduceAdd,Nat.reduceSub,Nat.reduceLeDiff,Nat.reduceEqDiff,Nat.reduceLT,reduceIte,reduceCtorEq];repeat' (first|exact AV.le_refl _|refine And.intro ?_ ?_|refine AV.wY ?_|refine AV.uR ?_|refine AV.yx ?_|refine AV.vT (DL.agg ?_)|exact Ry|exact CI|refine Rx ?_ ?_|refine wE ?_ ?_|exact Rv|refine Ru ?_ ?_|exact qL (AV.vT DL.nil) _|exact D.le_refl _|exact vR|exact qJ|refine vQ ?_|(simp only[go_sem,gu,aS,List.map_take,List.map_drop,aL,Nat.reduceAdd,Nat.reduceSub,Nat.reduceLeDiff,Nat.reduceEqDiff,Nat.reduceLT,reduceIte,reduceCtorEq];done)|refine o_.append (o_.refl _) ?_|refine AV.sy ?_|refine AV.BP ?_|omega));done)):p:=h
section
variable{P:Program}{k0 f:Nat}{args env:List AV}{s:gA}{d:Option Nat}{R:List AV->gA->Prop}{F:List (List Nat×List Nat)->List AV->gA->Prop}{ms:List h_}{acc:List (List Nat×List Nat)}{foot:List Nat}
end
theorem wk{k:Nat}{env env':List AV}{s s':gA}(h:gV env env':=by first|(simp only[go_sem,gu,aS,List.map_take,List.map_drop,aL,Nat.reduceAdd,Nat.reduceSub,Nat.reduceLeDiff,Nat.reduceEqDiff,Nat.reduceLT,reduceIte,reduceCtorEq];done)|((try simp only[go_sem,gu,aS,List.map_take,List.map_drop,aL,Nat.reduceAdd,Nat.reduceSub,Nat.reduceLeDiff,Nat.reduceEqDiff,Nat.reduceLT,reduceIte,reduceCtorEq];repeat' (first|exact AV.le_refl _|refine And.intro ?_ ?_|refine AV.wY ?_|refine AV.uR ?_|refine AV.yx ?_|refine AV.vT (DL.agg ?_)|exact Ry|exact CI|refine Rx ?_ ?_|refine wE ?_ ?_|exact Rv|refine Ru ?_ ?_|exact qL (AV.vT DL.nil) _|exact D.le_refl _|exact vR|exact qJ|refine vQ ?_|(simp only[go_sem,gu,aS,List.map_take,List.map_drop,aL,Nat.reduceAdd,Nat.reduceSub,Nat.reduceLeDiff,Nat.reduceEqDiff,Nat.reduceLT,reduceIte,reduceCtorEq];done)|refine o_.append (o_.refl _) ?_|refine AV.sy ?_|refine AV.BP ?_|omega));done))(hs:ki s s':=by first|(simp only[go_sem,gu,aS,List.map_take,List.map_drop,aL,Nat.reduceAdd,Nat.reduceSub,Nat.reduceLeDiff,Nat.reduceEqDiff,Nat.reduceLT,reduceIte,reduceCtorEq];done)|((try simp only[go_sem,gu,aS,List.map_take,List.map_drop,aL,Nat.reduceAdd,Nat.reduceSub,Nat.reduceLeDiff,Nat.reduceEqDiff,Nat.reduceLT,reduceIte,reduceCtorEq];repeat' (first|exact AV.le_refl _|refine And.intro ?_ ?_|refine AV.wY ?_|refine AV.uR ?_|refine AV.yx ?_|refine AV.vT (DL.agg ?_)|exact Ry|exact CI|refine Rx ?_ ?_|refine wE ?_ ?_|exact Rv|refine Ru ?_ ?_|exact qL (AV.vT DL.nil) _|exact D.le_refl _|exact vR|exact qJ|refine vQ ?_|(simp only[go_sem,gu,aS,List.map_take,List.map_drop,aL,Nat.reduceAdd,Nat.reduceSub,Nat.reduceLeDiff,Nat.reduceEqDiff,Nat.reduceLT,reduceIte,reduceCtorEq];done)|refine o_.append (o_.refl _) ?_|refine AV.sy ?_|refine AV.BP ?_|omega));done)):gM k env s env' s':=gM.Ud h hs
theorem zN{p:Prop}(h:p:=by(try simp(disch:=first|omega|(simp only[aj,ai,bG,dM,aK,List.length_replicate,Nat.reduceAdd]<;>fail)|fail)only[yA,AV.jU,AV.ia,rQ,gJ,DC,Dz,Aa,BD,zc,ES,z_,zb,zZ,Lg,BC,DA,Gz,GA,DB,BB]);first|(simp only[go_sem,gu,aS,List.map_take,List.map_drop,aL,Nat.reduceAdd,Nat.reduceSub,Nat.reduceLeDiff,Nat.reduceEqDiff,Nat.reduceLT,reduceIte,reduceCtorEq];done)|((try simp only[go_sem,gu,aS,List.map_take,List.map_drop,aL,Nat.reduceAdd,Nat.reduceSub,Nat.reduceLeDiff,Nat.reduceEqDiff,Nat.reduceLT,reduceIte,reduceCtorEq];repeat' (first|exact AV.le_refl _|refine And.intro ?_ ?_|refine AV.wY ?_|refine AV.uR ?_|refine AV.yx ?_|refine AV.vT (DL.agg ?_)|exact Ry|exact CI|refine Rx ?_ ?_|refine wE ?_ ?_|exact Rv|refine Ru ?_ ?_|exact qL (AV.vT DL.nil) _|exact D.le_refl _|exact vR|exact qJ|refine vQ ?_|(simp only[go_sem,gu,aS,List.map_take,List.map_drop,aL,Nat.reduceAdd,Nat.reduceSub,Nat.reduceLeDiff,Nat.reduceEqDiff,Nat.reduceLT,reduceIte,reduceCtorEq];done)|refine o_.append (o_.refl _) ?_|refine AV.sy ?_|refine AV.BP ?_|omega));done)):p:=h
theorem WS{p q:Prop}(hq:q)(h:p=q:=by first|((conv=>lhs;simp(disch:=first|omega|(simp only[aj,ai,bG,dM,aK,List.length_replicate,Nat.reduceAdd]<;>fail)|fail)only[DC,Dz,Aa,BD,zc,ES,z_,zb,zZ,Lg,BC,DA,Gz,GA,DB,BB])<;>rfl)|rfl):p:=h▸hq
section
variable{α:Type}{f:α->D}{e:Nat}
theorem gN.fz[xC f e]{k0 t n:Nat}{x:AV}{s:gA}{ds:List D}(id:Nat)(f':α->D)(hf:f'=f)(xs:List α)(ho:sat s id=.ij t e n ds:=by exact rfl)(hid:k0<=id:=by omega)(hn:n=xs.length:=by simp)
 (hs:ds=gQ f xs:=by first|rfl|simp only[go_sem,gu,aS,List.map_take,List.map_drop,aL,Nat.reduceAdd,Nat.reduceSub,Nat.reduceLeDiff,Nat.reduceEqDiff,Nat.reduceLT,reduceIte,reduceCtorEq]):gN k0 x s (x.mT id (xs.map f')) (rU id (xs.map f') s):=gN.Wo id f' hf xs hid ho hn hs
theorem gM.fz[xC f e]{k0 t n:Nat}{env:List AV}{s:gA}{ds:List D}(id:Nat)(f':α->D)(hf:f'=f)(xs:List α)(ho:sat s id=.ij t e n ds:=by exact rfl)(hid:k0<=id:=by omega)(hn:n=xs.length:=by simp)
 (hs:ds=gQ f xs:=by first|rfl|simp only[go_sem,gu,aS,List.map_take,List.map_drop,aL,Nat.reduceAdd,Nat.reduceSub,Nat.reduceLeDiff,Nat.reduceEqDiff,Nat.reduceLT,reduceIte,reduceCtorEq]):gM k0 env s (AV.oz id (xs.map f') env) (rU id (xs.map f') s):=gM.Oa id f' hf xs hid ho hn hs
end
section
variable{P:Program}{k:Nat}{Q:Post}{env:List AV}{s:gA}
end
section
attribute [local irreducible] sG ud tP lp kI oZ jk ya yG wF yF wv rj kR lN ym gV ki
end
section
attribute [local irreducible] sG ud tP lp kI oZ jk ya yG wF yF wv rj kR lN ym gV ki
end
def sq:Nat->List ri->List h_
 |_,[]=>[]
 |n,x::xs=>⟨some n,x,none⟩::sq (n+1) xs
def sg(g:Nat)(b:Bool):Nat->List ri->List h_
 |_,[]=>[]
 |n,x::xs=>⟨some n,x,some (some g,b)⟩::sg g b (n+1) xs
def s0(x:ri):List h_:=[⟨none,x,none⟩]
def t0(n:Nat):Operand:=.tmp n
def i0(n:Int):Operand:=.const (.int .i64 n)
def SR:List Nat->List Operand
 |[]=>[]
 |n::ns=>.tmp n::SR ns
def mv(n:Nat):ri:=.mv (.tmp n)
def mi(n:Int):ri:=.mv (.const (.int .i64 n))
def mb(b:Bool):ri:=.mv (.const (.bool b))
def ld(n:Nat):ri:=.load 1 false (.tmp n)
def la(e n:Nat):ri:=.load e true (.tmp n)
def fa(o n:Nat):ri:=.Nn o (.tmp n)
def cf(f:Nat)(ns:List Nat):ri:=.iy f (SR ns)
def pa(a b:Nat):ri:=.pick (.tmp a) (.tmp b) (.const (.bool false))
def po(a b:Nat):ri:=.pick (.tmp a) (.const (.bool true)) (.tmp b)
def bn(o:BinOp)(a b:Nat):ri:=.bin o (.tmp a) (.tmp b)
def bi(o:BinOp)(a:Nat)(n:Int):ri:=.bin o (.tmp a) (.const (.int .i64 n))
def nt(n:Nat):ri:=.un .not (.tmp n)
def ln(n:Nat):ri:=.len (.tmp n)
def ex(n i:Nat):ri:=.ext (.tmp n) i
def ix(e a b:Nat):ri:=.qj e (.tmp a) (.tmp b)
def bo(d t n:Nat):ri:=.box d t (.tmp n)
def ap(d t e b x y:Nat):ri:=.app d t e b (.tmp x) (.tmp y)
def sr(n a b:Nat):ri:=.store n (.tmp a) (.tmp b)
theorem WQ{n:Nat}:sq n []=[]:=(rfl)
theorem WO{n:Nat}{x:ri}{xs:List ri}:sq n (x::xs)=⟨some n,x,none⟩::sq (n+1) xs:=(rfl)
theorem WN{g:Nat}{b:Bool}{n:Nat}:sg g b n []=[]:=(rfl)
theorem WM{g:Nat}{b:Bool}{n:Nat}{x:ri}{xs:List ri}:sg g b n (x::xs)=⟨some n,x,some (some g,b)⟩::sg g b (n+1) xs:=(rfl)
theorem WL{x:ri}:s0 x=[⟨none,x,none⟩]:=(rfl)
theorem WT{n:Nat}:t0 n=.tmp n:=(rfl)
theorem Wq{n:Int}:i0 n=.const (.int .i64 n):=(rfl)
theorem Vj:SR []=[]:=(rfl)
theorem Vi{n:Nat}{ns:List Nat}:SR (n::ns)=.tmp n::SR ns:=(rfl)
theorem WC{n:Nat}:mv n=.mv (.tmp n):=(rfl)
theorem WB{n:Int}:mi n=.mv (.const (.int .i64 n)):=(rfl)
theorem WA{b:Bool}:mb b=.mv (.const (.bool b)):=(rfl)
theorem Wu{n:Nat}:ld n=.load 1 false (.tmp n):=(rfl)
theorem Wt{e n:Nat}:la e n=.load e true (.tmp n):=(rfl)
theorem VE{o n:Nat}:fa o n=.Nn o (.tmp n):=(rfl)
theorem VC{f:Nat}{ns:List Nat}:cf f ns=.iy f (SR ns):=(rfl)
theorem WH{a b:Nat}:pa a b=.pick (.tmp a) (.tmp b) (.const (.bool false)):=(rfl)
theorem WI{a b:Nat}:po a b=.pick (.tmp a) (.const (.bool true)) (.tmp b):=(rfl)
theorem VA{o:BinOp}{a b:Nat}:bn o a b=.bin o (.tmp a) (.tmp b):=(rfl)
theorem Vz{o:BinOp}{a:Nat}{n:Int}:bi o a n=.bin o (.tmp a) (.const (.int .i64 n)):=(rfl)
theorem WD{n:Nat}:nt n=.un .not (.tmp n):=(rfl)
theorem Wy{n:Nat}:ln n=.len (.tmp n):=(rfl)
theorem VD{n i:Nat}:ex n i=.ext (.tmp n) i:=(rfl)
theorem Ws{e a b:Nat}:ix e a b=.qj e (.tmp a) (.tmp b):=(rfl)
theorem VB{d t n:Nat}:bo d t n=.box d t (.tmp n):=(rfl)
theorem Vy{d t e b x y:Nat}:ap d t e b x y=.app d t e b (.tmp x) (.tmp y):=(rfl)
theorem WR{n a b:Nat}:sr n a b=.store n (.tmp a) (.tmp b):=(rfl)
attribute [go_sem] WQ WO WN WM WL WT Wq Vj Vi WC WB WA Wu Wt VE VC WH WI VA Vz WD Wy VD Ws VB Vy WR
class gP {α:Type} (x:Option α) (Q:outParam (α->Prop)):Prop where
 c:∀{r:α},x=some r->Q r
def Pq{α β:Type}(x:Option α)(K:α->Option β)(r:β):Prop:=x.bind K=some r
def WX{α:Type}(c:Bool)(a b:Option α)(r:α):Prop:=(if c=true then a else b)=some r
def WY{α:Type}(p:Prop)(a:Option α)(r:α):Prop:=p/\a=some r
theorem Xb{α β:Type}{x:Option α}{K:α->Option β}{r:β}(h:x.bind K=some r):Pq x K r:=h
theorem Xf{α:Type}{c:Bool}{a b:Option α}{r:α}(h:(if c=true then a else b)=some r):WX c a b r:=h
theorem Xg{α:Type}{p:Prop}[Decidable p]{a:Option α}{r:α}(h:(if p then a else none)=some r):WY p a r:=qS h
theorem Xd{α:Type}{x r:α}(h:some x=some r):x=r:=Option.some.inj h
theorem Xe{α:Type}{r:α}(h:none=some r):False:=by cases h
theorem it{α:Type}{c:Bool}{a b:Option α}{r:α}{p q1 q2:Prop}(h:WX c a b r)(k1:c=true->a=some r->q1)(k2:c=false->b=some r->q2)
 (e1:c=true->p=q1:=by intro hc;(try simp only[aj,ai,bG,aK,Nat.reduceAdd]at hc);first|((conv=>lhs;simp(maxSteps:=1000000) (disch:=omega)only[go_sem,kW,kV,lZ,lX,bO,bf,bt,Nat.reduceAdd,Nat.reduceSub,Nat.reduceLeDiff,Nat.reduceEqDiff,Nat.reduceLT,Int.reduceToNat,reduceIte,reduceCtorEq,hc])<;>rfl)|rfl)
 (e2:c=false->p=q2:=by intro hc;(try simp only[aj,ai,bG,aK,Nat.reduceAdd]at hc);first|((conv=>lhs;simp(maxSteps:=1000000) (disch:=omega)only[go_sem,kW,kV,lZ,lX,bO,bf,bt,Nat.reduceAdd,Nat.reduceSub,Nat.reduceLeDiff,Nat.reduceEqDiff,Nat.reduceLT,Int.reduceToNat,reduceIte,reduceCtorEq,hc])<;>rfl)|rfl):p:=
 (BL h).elim (fun h=>(e1 h.1).symm▸k1 h.1 h.2) fun h=>(e2 h.1).symm▸k2 h.1 h.2
def Rt(p:Prop):Prop:=p
theorem WK{c x:Prop}(h:c):Rt (c/\x)=Rt x:=propext ⟨fun k=>k.2,fun k=>⟨h,k⟩⟩
theorem yf{p q:Prop}(hq:q)(e:p=q:=by first|((conv=>lhs;change Rt _;simp(maxSteps:=1000000) (disch:=omega)only[WK,go_sem,kW,kV,lZ,lX,bO,bf,bt,Nat.reduceAdd,Nat.reduceSub,Nat.reduceLeDiff,Nat.reduceEqDiff,Nat.reduceLT,Int.reduceToNat,reduceIte,reduceCtorEq];delta Rt)<;>rfl)|rfl):p:=e▸hq
theorem W9{α:Type}{c p q:Prop}{a:Option α}{r:α}(h:WY c a r)(k:c->a=some r->q)
 (e:c->p=q:=by intro hp;(try(have hq':=hp;simp only[aj,ai,bG,aK,Nat.reduceAdd]at hq'));first|((conv=>lhs;change Rt _;simp(maxSteps:=1000000) (disch:=omega)only[WK,go_sem,kW,kV,lZ,lX,bO,bf,bt,Nat.reduceAdd,Nat.reduceSub,Nat.reduceLeDiff,Nat.reduceEqDiff,Nat.reduceLT,Int.reduceToNat,reduceIte,reduceCtorEq];delta Rt)<;>rfl)|rfl):p:=(e h.1).symm▸(k h.1 h.2)
theorem iC{α:Type}{c p q:Prop}{_:Decidable c}{a:Option α}{r:α}(h:(if c then a else none)=some r)(k:c->a=some r->q)
 (e:c->p=q:=by intro hp;(try(have hq':=hp;simp only[aj,ai,bG,aK,Nat.reduceAdd]at hq'));first|((conv=>lhs;change Rt _;simp(maxSteps:=1000000) (disch:=omega)only[WK,go_sem,kW,kV,lZ,lX,bO,bf,bt,Nat.reduceAdd,Nat.reduceSub,Nat.reduceLeDiff,Nat.reduceEqDiff,Nat.reduceLT,Int.reduceToNat,reduceIte,reduceCtorEq];delta Rt)<;>rfl)|rfl):p:=(e (qS h).1).symm▸(k (qS h).1 (qS h).2)
section
variable{α β:Type}{P:Program}{k0 f:Nat}{args env:List AV}{s:gA}{d:Option Nat}{R:List AV->gA->Prop}{F:List (List Nat×List Nat)->List AV->gA->Prop}{ms:List h_}{acc:List (List Nat×List Nat)}{foot:List Nat}
 {x:Option α} {K:α->Option β} {r:β} {q:α->Prop}
theorem rC{dz:List D}{y:α->D}[i:gP x fun a=>iw P f dz (y a)](h:Pq x K r)(hk:∀a,x=some a->K a=some r->q a)
 (e:∀a,R (gU d env (.d (y a))) s=q a:=by intro a;first|((conv=>lhs;simp(maxSteps:=1000000) (disch:=omega)only[go_sem,kW,kV,lZ,lX,bO,bf,bt,Nat.reduceAdd,Nat.reduceSub,Nat.reduceLeDiff,Nat.reduceEqDiff,Nat.reduceLT,Int.reduceToNat,reduceIte,reduceCtorEq])<;>rfl)|rfl) (ha:gV (args.map fun x=>x.jU (nK [])) (dz.map .d):=by exact lH):kR P k0 f args env s d R:=
 let⟨a,h1,h2⟩:=bind_some h;K1 (i.c h1) ha ((e a).symm▸hk a h1 h2)
theorem SP{dz:List D}{y:α->List D}[i:gP x fun a=>rW P f dz (y a)](h:Pq x K r)(hk:∀a,x=some a->K a=some r->q a)
 (e:∀a,R (gU d env (.l_ ((y a).map .d))) s=q a:=by intro a;first|((conv=>lhs;simp(maxSteps:=1000000) (disch:=omega)only[go_sem,kW,kV,lZ,lX,bO,bf,bt,Nat.reduceAdd,Nat.reduceSub,Nat.reduceLeDiff,Nat.reduceEqDiff,Nat.reduceLT,Int.reduceToNat,reduceIte,reduceCtorEq])<;>rfl)|rfl) (ha:gV (args.map fun x=>x.jU (nK [])) (dz.map .d):=by exact lH):kR P k0 f args env s d R:=
 let⟨a,h1,h2⟩:=bind_some h;I7 (i.c h1) ha ((e a).symm▸hk a h1 h2)
theorem dC{dz:List D}{y:α->D}[i:gP x fun a=>iw P f dz (y a)](h:Pq x K r)(hk:∀a,x=some a->K a=some r->q a)
 (e:∀a,tP P k0 F ms ((foot,[])::acc) (gU d env (.d (y a))) s=q a:=by intro a;first|((conv=>lhs;simp(maxSteps:=1000000) (disch:=omega)only[go_sem,kW,kV,lZ,lX,bO,bf,bt,Nat.reduceAdd,Nat.reduceSub,Nat.reduceLeDiff,Nat.reduceEqDiff,Nat.reduceLT,Int.reduceToNat,reduceIte,reduceCtorEq])<;>rfl)|rfl) (ha:gV (args.map fun x=>x.jU (nK [])) (dz.map .d):=by exact lH):lN P k0 F ms acc foot d env s f args:=
 let⟨a,h1,h2⟩:=bind_some h;K0 (i.c h1) ha ((e a).symm▸hk a h1 h2)
theorem W7{dz:List D}{y:α->List D}[i:gP x fun a=>rW P f dz (y a)](h:Pq x K r)(hk:∀a,x=some a->K a=some r->q a)
 (e:∀a,tP P k0 F ms ((foot,[])::acc) (gU d env (.l_ ((y a).map .d))) s=q a:=by intro a;first|((conv=>lhs;simp(maxSteps:=1000000) (disch:=omega)only[go_sem,kW,kV,lZ,lX,bO,bf,bt,Nat.reduceAdd,Nat.reduceSub,Nat.reduceLeDiff,Nat.reduceEqDiff,Nat.reduceLT,Int.reduceToNat,reduceIte,reduceCtorEq])<;>rfl)|rfl) (ha:gV (args.map fun x=>x.jU (nK [])) (dz.map .d):=by exact lH):lN P k0 F ms acc foot d env s f args:=
 let⟨a,h1,h2⟩:=bind_some h;I6 (i.c h1) ha ((e a).symm▸hk a h1 h2)
theorem oB(pr nw:List fR){dz:List AV}{s1:gA}{t:α->gA}{y:α->AV}[i:gP x fun a=>gG P f dz s1 pr.length fun x s'=>x=y a/\s'=t a](h:Pq x K r)(hk:∀a,x=some a->K a=some r->q a)
 (e:∀a,R (gU d env ((y a).jU (mC (pr++nw)))) (qW s (t a) (pr++nw) (pr++nw))=q a:=by intro a;first|((conv=>lhs;simp(maxSteps:=1000000) (disch:=omega)only[go_sem,kW,kV,lZ,lX,bO,bf,bt,Nat.reduceAdd,Nat.reduceSub,Nat.reduceLeDiff,Nat.reduceEqDiff,Nat.reduceLT,Int.reduceToNat,reduceIte,reduceCtorEq])<;>rfl)|rfl)
 (h1:pr.map (·.1)=List.range pr.length:=by rfl) (h2:((pr++nw).map (·.1)).Nodup:=by decide) (h3:((pr++nw).map (·.2)).Nodup:=by decide)
 (h4:∀p∈nw,sat s p.2=.dead/\k0<=p.2:=by simp[sat]) (ha:gV (args.map fun x=>x.jU (nK pr)) dz:=by exact lH) (hs:ki (mq s pr pr) s1:=by exact lH):kR P k0 f args env s d R:=
 let⟨a,g1,g2⟩:=bind_some h;N2 pr nw (i.c g1) h1 h2 h3 h4 ha hs ((e a).symm▸hk a g1 g2)
theorem Cx(pr nw:List fR){dz:List AV}{s1:gA}{t:α->gA}{y:α->AV}[i:gP x fun a=>gG P f dz s1 pr.length fun x s'=>x=y a/\s'=t a](h:Pq x K r)(hk:∀a,x=some a->K a=some r->q a)
 (e:∀a,tP P k0 F ms (((pr++nw).map (·.2)++foot,(Fe (t a) (pr++nw) (pr++nw)).map (·.1))::acc) (gU d env ((y a).jU (mC (pr++nw)))) (pL s (Fe (t a) (pr++nw) (pr++nw)))=q a:=by intro a;first|((conv=>lhs;simp(maxSteps:=1000000) (disch:=omega)only[go_sem,kW,kV,lZ,lX,bO,bf,bt,Nat.reduceAdd,Nat.reduceSub,Nat.reduceLeDiff,Nat.reduceEqDiff,Nat.reduceLT,Int.reduceToNat,reduceIte,reduceCtorEq])<;>rfl)|rfl)
 (h1:pr.map (·.1)=List.range pr.length:=by rfl) (h2:((pr++nw).map (·.1)).Nodup:=by decide) (h3:((pr++nw).map (·.2)).Nodup:=by decide)
 (h4:∀p∈nw,sat s p.2=.dead/\k0<=p.2:=by simp[sat]) (ha:gV (args.map fun x=>x.jU (nK pr)) dz:=by exact lH) (hs:ki (mq s pr pr) s1:=by exact lH):lN P k0 F ms acc foot d env s f args:=
 let⟨a,g1,g2⟩:=bind_some h;N1 pr nw (i.c g1) h1 h2 h3 h4 ha hs ((e a).symm▸hk a g1 g2)
end
theorem mj{p:Prop}(h:p:=by repeat' first
 |refine iY (by kernel_rfl) (gW ?_)
 |refine tG gq (yf ?_)
 |(with_reducible replace h:=Xd h);subst h;first|(refine⟨_,rfl,gM.Ud ?_ ?_⟩<;>(first|(simp only[go_sem,gu,aS,List.map_take,List.map_drop,aL,Nat.reduceAdd,Nat.reduceSub,Nat.reduceLeDiff,Nat.reduceEqDiff,Nat.reduceLT,reduceIte,reduceCtorEq];done)|((try simp only[go_sem,gu,aS,List.map_take,List.map_drop,aL,Nat.reduceAdd,Nat.reduceSub,Nat.reduceLeDiff,Nat.reduceEqDiff,Nat.reduceLT,reduceIte,reduceCtorEq];repeat' (first|exact AV.le_refl _|refine And.intro ?_ ?_|refine AV.wY ?_|refine AV.uR ?_|refine AV.yx ?_|refine AV.vT (DL.agg ?_)|exact Ry|exact CI|refine Rx ?_ ?_|refine wE ?_ ?_|exact Rv|refine Ru ?_ ?_|exact qL (AV.vT DL.nil) _|exact D.le_refl _|exact vR|exact qJ|refine vQ ?_|(simp only[go_sem,gu,aS,List.map_take,List.map_drop,aL,Nat.reduceAdd,Nat.reduceSub,Nat.reduceLeDiff,Nat.reduceEqDiff,Nat.reduceLT,reduceIte,reduceCtorEq];done)|refine o_.append (o_.refl _) ?_|refine AV.sy ?_|refine AV.BP ?_|omega));done)))|(first|(simp only[go_sem,gu,aS,List.map_take,List.map_drop,aL,Nat.reduceAdd,Nat.reduceSub,Nat.reduceLeDiff,Nat.reduceEqDiff,Nat.reduceLT,reduceIte,reduceCtorEq];done)|((try simp only[go_sem,gu,aS,List.map_take,List.map_drop,aL,Nat.reduceAdd,Nat.reduceSub,Nat.reduceLeDiff,Nat.reduceEqDiff,Nat.reduceLT,reduceIte,reduceCtorEq];repeat' (first|exact AV.le_refl _|refine And.intro ?_ ?_|refine AV.wY ?_|refine AV.uR ?_|refine AV.yx ?_|refine AV.vT (DL.agg ?_)|exact Ry|exact CI|refine Rx ?_ ?_|refine wE ?_ ?_|exact Rv|refine Ru ?_ ?_|exact qL (AV.vT DL.nil) _|exact D.le_refl _|exact vR|exact qJ|refine vQ ?_|(simp only[go_sem,gu,aS,List.map_take,List.map_drop,aL,Nat.reduceAdd,Nat.reduceSub,Nat.reduceLeDiff,Nat.reduceEqDiff,Nat.reduceLT,reduceIte,reduceCtorEq];done)|refine o_.append (o_.refl _) ?_|refine AV.sy ?_|refine AV.BP ?_|omega));done))|(refine⟨[],by simp,?_,?_⟩<;>(first|(simp only[go_sem,gu,aS,List.map_take,List.map_drop,aL,Nat.reduceAdd,Nat.reduceSub,Nat.reduceLeDiff,Nat.reduceEqDiff,Nat.reduceLT,reduceIte,reduceCtorEq];done)|((try simp only[go_sem,gu,aS,List.map_take,List.map_drop,aL,Nat.reduceAdd,Nat.reduceSub,Nat.reduceLeDiff,Nat.reduceEqDiff,Nat.reduceLT,reduceIte,reduceCtorEq];repeat' (first|exact AV.le_refl _|refine And.intro ?_ ?_|refine AV.wY ?_|refine AV.uR ?_|refine AV.yx ?_|refine AV.vT (DL.agg ?_)|exact Ry|exact CI|refine Rx ?_ ?_|refine wE ?_ ?_|exact Rv|refine Ru ?_ ?_|exact qL (AV.vT DL.nil) _|exact D.le_refl _|exact vR|exact qJ|refine vQ ?_|(simp only[go_sem,gu,aS,List.map_take,List.map_drop,aL,Nat.reduceAdd,Nat.reduceSub,Nat.reduceLeDiff,Nat.reduceEqDiff,Nat.reduceLT,reduceIte,reduceCtorEq];done)|refine o_.append (o_.refl _) ?_|refine AV.sy ?_|refine AV.BP ?_|omega));done)))
 |(with_reducible exact(Xe h).elim)
 |(with_reducible replace h:=Xf h);refine it h (fun hc h=>?_) (fun hc h=>?_)
 |(with_reducible replace h:=Xg h);refine W9 h (fun hp h=>?_)
 |(with_reducible replace h:=Xb h);first|refine rC h (fun r hr h=>?_)|refine SP h (fun r hr h=>?_)|refine dC h (fun r hr h=>?_)|refine W7 h (fun r hr h=>?_)
 |(with_reducible replace h:=gT h hb3)
 |(with_reducible replace h:=gT h hb2)
 |(with_reducible replace h:=gT h hb1)
 |(exfalso;simp only[az,bT]at *;omega)):p:=h
theorem iT{α:Type}{c:Bool}{a b:Option α}{r:α}{p q1:Prop}(h:(if c=true then a else b)=some r)(k1:c=true->a=some r->q1)
 (e1:c=true->p=q1:=by intro hc;(try simp only[aj,ai,bG,aK,Nat.reduceAdd]at hc);first|((conv=>lhs;simp(maxSteps:=1000000) (disch:=omega)only[go_sem,kW,kV,lZ,lX,bO,bf,bt,Nat.reduceAdd,Nat.reduceSub,Nat.reduceLeDiff,Nat.reduceEqDiff,Nat.reduceLT,Int.reduceToNat,reduceIte,reduceCtorEq,hc])<;>rfl)|rfl)
 (k2:c=false->b=some r->p:=by intro hc h;(try simp only[aj,ai,bG,aK,Nat.reduceAdd]at hc);refine MJ hc ?_;exact mj):p:=
 (BL h).elim (fun h=>(e1 h.1).symm▸k1 h.1 h.2) fun h=>k2 h.1 h.2
theorem iF{α:Type}{c:Bool}{a b:Option α}{r:α}{p q2:Prop}(h:(if c=true then a else b)=some r)(k2:c=false->b=some r->q2)
 (e2:c=false->p=q2:=by intro hc;(try simp only[aj,ai,bG,aK,Nat.reduceAdd]at hc);first|((conv=>lhs;simp(maxSteps:=1000000) (disch:=omega)only[go_sem,kW,kV,lZ,lX,bO,bf,bt,Nat.reduceAdd,Nat.reduceSub,Nat.reduceLeDiff,Nat.reduceEqDiff,Nat.reduceLT,Int.reduceToNat,reduceIte,reduceCtorEq,hc])<;>rfl)|rfl)
 (k1:c=true->a=some r->p:=by intro hc h;(try simp only[aj,ai,bG,aK,Nat.reduceAdd]at hc);refine MJ hc ?_;exact mj):p:=
 (BL h).elim (fun h=>k1 h.1 h.2) fun h=>(e2 h.1).symm▸k2 h.1 h.2
theorem jC{P:Program}{k:Nat}{Q:Post}{env:List AV}{s:gA}{x:gB}{σ β:Type}{f:σ->Option (σ⊕β)}{s0:σ}{b:β}(hb:gF f s0=some b)
 (ws:List Nat) (vs:σ->List (Nat×AV)) (S:σ->gA)
 (round:∀p t,f p=some t->(∀b',t=.inr b'->b'=b)->oZ P k x (AJ (fun env' s'=>∃p',t=.inl p'/\gM k env' s' (tJ (qz env ws) (vs p')) (S p')) Q)
  (tJ (qz env ws) (vs p)) (S p)) (hw:gM k env s (tJ (qz env ws) (vs s0)) (S s0):=by(try dsimp only);exact wk):oZ P k (.loop x) Q env s:=pS hb ws vs S hw round
def Ww:D->Bool
 |.lit _=>true
 |_=>false
def S9:D->Bool
 |.lit _=>true
 |.sl _ _ _=>true
 |_=>false
def Vk:D->AV
 |.sl e nl xs=>.dp (.sl e nl xs)
 |x=>.d x
def MO(ds:List D):List AV:=(ds.flatMap gx).map Vk
theorem kU{ρ:Nat->Option Nat}:∀{ds:List D},AV.ia ρ (MO ds)=MO ds:=fun{ds}=>by
 rw[nh];unfold MO;rw[c_];refine bW fun x _=>?_
 cases x<;>rfl
theorem D.DN{O O':Own}{w:World}(h:∀b o,O' b o->O b o){x:D}{v:Value}(hx:D.ok O w x v):D.ok O' w x v:=D.jH (fun _ _ _ hc hn=>⟨hc,fun ho=>hn (h _ _ ho)⟩) x v hx
def wh(C:Ctx):Ctx:={O:=C.O,β:=fun _=>.no,s:=[],w:=C.w,k:=0}
theorem wh.inv{C:Ctx}(h:Inv C C.β C.s C.w):Inv (wh C) (wh C).β (wh C).s (wh C).w where
 size:=au _
 io:=rfl
 keep:=fun _ _ _ h _=>h
 sk:=fun _ _ _=>rfl
 qb:=fun _ _ h=>.inl h
 tH:=fun id _ h=>.inl ⟨id,h⟩
 pl:=fun _ _=>.refl _
 low:=fun b o ho=>⟨(h.low b o ho).1,fun⟨id,hq⟩=>hq.elim⟩
 obs:=fun _=>rfl
 inj:=fun _ _ _ h=>h.elim
theorem wh.gD{C:Ctx}:(wh C).gD (wh C).β (wh C).s=C.O:=by
 funext b o;refine propext ⟨fun h=>h.elim id fun⟨_,h⟩=>h.elim,.inl⟩
class FV {α:Type} (f:α->D):Prop where
 lit:∀x,Ww (f x)=true
class Cl {α:Type} (f:α->D):Prop where
 cl:∀x,∀c∈gx (f x),S9 c=true
instance:FV iD:=⟨fun _=>rfl⟩
instance:FV bD:=⟨fun _=>rfl⟩
instance:FV sD:=⟨fun _=>rfl⟩
instance{k:IntKind}:FV (kD k):=⟨fun _=>rfl⟩
instance:Cl iD:=⟨fun _ c h=>by simp only[iD,gx,bq]at h;subst h;rfl⟩
instance:Cl bD:=⟨fun _ c h=>by simp only[bD,gx,bq]at h;subst h;rfl⟩
instance:Cl sD:=⟨fun _ c h=>by simp only[sD,gx,bq]at h;subst h;rfl⟩
instance{k:IntKind}:Cl (kD k):=⟨fun _ c h=>by simp only[kD,gx,bq]at h;subst h;rfl⟩
instance{α:Type}{e:Nat}{f:α->D}:Cl (gu e f):=⟨fun _ c h=>by simp only[gu,gx,bq]at h;subst h;rfl⟩
section
variable{α:Type}{f:α->D}{e n id:Nat}{s:gA}{xs ys:List α}
variable[Inhabited α]{i k:Nat}
end
attribute [go_sem] kU
def eD{α:Type}(f:α->D)(M:List (Lit×α)):List (Lit×D):=M.map fun p=>(p.1,f p.2)
section
variable{α:Type}{f:α->D}{M:List (Lit×α)}{kl:Lit}{x:α}
theorem Rw:eD f []=[]:=rfl
theorem N7:eD f ((kl,x)::M)=(kl,f x)::eD f M:=rfl
end
theorem K6{id:Nat}:AV.cells (.mp id)=some [.mp id]:=rfl
theorem Pd{id:Nat}{xs:List AV}:AV.qc (.mp id::xs)=none:=rfl
theorem GH{v:Value}:GG (.lit v)=false:=rfl
theorem Jq{e:Nat}{nl:Option Bool}{xs:List D}:GG (.sl e nl xs)=false:=rfl
theorem GI{α:Type}{e:Nat}{f:α->D}{xs:List α}:GG (gu e f xs)=false:=rfl
attribute [go_sem] Rw N7 K6 Pd GH Jq GI
section
variable{P:Program}{k:Nat}{Q:Post}{env:List AV}{s:gA}
end
theorem mf{P:Program}{f:Nat}{mc:gB}{n:Nat}{rs:List vG}{fn:Func}(h1:P.funcs[f]?=some fn)(h3:fn.ntmps=n)(h2:fn.body.bind (nL P)=some mc.erase:=by kernel_rfl)
 (h4:fn.results.toList.mapM (xT P)=some rs:=by kernel_rfl):kG P f mc n rs:=⟨fn,h1,h2,h3,h4⟩
mutual
inductive uh(s:gA):AV->AV->Prop
 |d {x:AV} {a:D} (h:AV.le x (.d a)):uh s x (.d a)
 |ij {e id n:Nat} {ds:List D} (h:wI s id ds) (hx:(AV.jM e id n).mT id ds=.d (.sl e none ds)):uh s (.jM e id n) (.d (.sl e none ds))
 |ptr {id t:Nat} {cs:List AV} {ds:List D} (h:sat s id=.obj t cs) (hd:cs=ds.map .d):uh s (.ptr id 0) (.pv ds)
 |fn {f:Nat} {a b a' b':List AV} (h:qH s a a') (h':qH s b b'):uh s (.fn f a b) (.fn f a' b')
inductive qH(s:gA):List AV->List AV->Prop
 |nil:qH s [] []
 |cons {x y:AV} {xs ys:List AV} (h:uh s x y) (hs:qH s xs ys):qH s (x::xs) (y::ys)
end
theorem OO{C:Ctx}{β:gI}{s:gA}{w:World}(h:Inv C β s w){b o:Nat}(ho:own β s b o):¬C.O b o:=fun hO=>by
 have hl:=h.low b o hO;rcases h.qb b o ho with h4|h4
 ·exact hl.2 h4
 ·omega
theorem QK{β:gI}{O:Own}{w:World}:∀{ds:List D}{vs:List Value},AV.gO β O w (ds.map .d) vs->D.gO O w ds vs\/∃v∈vs,one v=false
 |[],vs,h=>by simp only[dx,AV.gO]at h;exact .inl (by simpa[D.gO]using h)
 |d::ds,vs,h=>by
  simp only[aZ,AV.gO,AV.ok]at h;obtain⟨v,r,rfl,h1,h2⟩:=h;cases hv:one v with
  |false=>exact .inr ⟨v,by simp,hv⟩
  |true=>
   rcases QK h2 with h3|⟨u,hu,h3⟩
   ·exact .inl (by simp only[D.gO];exact⟨v,r,rfl,hv,h1,h3⟩)
   ·exact .inr ⟨u,by simp[hu],h3⟩
mutual
theorem uh.ok{C:Ctx}{β:gI}{s:gA}{w:World}(h:Inv C β s w)(β':gI):∀{x y:AV}{v:Value},uh s x y->AV.ok β (C.gD β s) w x v->AV.ok β' C.O w y v
 |_,_,v,.d hl,hv=>by
  have:=hl _ _ _ _ hv;simp only[AV.ok]at this⊢;exact D.DN (fun b o ho=>.inl ho) this
 |_,_,v,.ij (id:=id) hf hx,hv=>by
  have:=yu h hf _ _ hv;rw[hx]at this;simp only[AV.ok]at this⊢;exact D.DN (fun b o ho=>.inl ho) this
 |_,_,v,.ptr (id:=id) (ds:=ds) hs hd,hv=>by
  have hob:=h.obs id;rw[hs]at hob;simp only[AV.ok]at hv⊢;obtain⟨b,h1,rfl⟩:=hv;obtain⟨b',vs,h2,h3,h4,pre,rest,h5,h6⟩:=hob;rw[h1]at h2;cases h2;rw[hd]at h6;have hb:∀o,¬C.O b o:=fun o=>OO h ⟨id,by rw[hs];exact h1⟩
  refine⟨b,0,pre,rfl,fun j u hj=>⟨?_,hb _,h4 u (by rw[h5];exact bF _ (bR hj))⟩,?_⟩
  ·have:vs.toList[j]?=some u:=by rw[h5,aT (aP.1 hj).1];exact hj
   simp only[World.cell?,h3,aX];simpa using this
  ·rcases QK h6 with h7|⟨u,hu,h7⟩
   ·have:∀{ds:List D}{vs:List Value},D.gO (C.gD β s) w ds vs->D.gO C.O w ds vs:=by
     intro ds;induction ds with
     |nil=>intro vs h;simpa[D.gO]using h
     |cons d ds ih=>
      intro vs h;simp only[D.gO]at h⊢;obtain⟨v,r,rfl,k1,k2,k3⟩:=h;exact⟨v,r,rfl,k1,D.DN (fun b o ho=>.inl ho) k2,ih k3⟩
    exact this h7
   ·have:=h4 u (by rw[h5];exact bF _ hu);rw[h7]at this;cases this
 |_,_,v,.fn h1 h2,hv=>by
  simp only[AV.ok]at hv⊢;obtain⟨fs,cs,rfl,h3,h4⟩:=hv;exact⟨fs,cs,rfl,qH.gO h β' h1 h3,qH.gO h β' h2 h4⟩
theorem qH.gO{C:Ctx}{β:gI}{s:gA}{w:World}(h:Inv C β s w)(β':gI):∀{xs ys:List AV}{vs:List Value},qH s xs ys->AV.gO β (C.gD β s) w xs vs->AV.gO β' C.O w ys vs
 |_,_,vs,.nil,hv=>by simpa[AV.gO]using hv
 |_,_,vs,.cons hl hs,hv=>by
  simp only[AV.gO]at hv⊢;obtain⟨v,r,rfl,h2,h3⟩:=hv;exact⟨v,r,rfl,uh.ok h β' hl h2,qH.gO h β' hs h3⟩
end
theorem Gi{P:Program}{k0 f:Nat}{args env:List AV}{s:gA}{d:Option Nat}{R:List AV->gA->Prop}{dz:List AV}{u:Value}
 (hc:gG P f dz [] 0 fun x _=>x=.d (.lit u)) (hl:qH s args dz) (hk:R (gU d env (.d (.lit u))) s):kR P k0 f args env s d R:=fun C β a w vs hC hst hvs=>by
 have hi:=hst.inv;have hb:=wh.inv (Inv.here hi (K:=0));refine(hc (wh _) vs rfl rfl hb (by rw[wh.gD];exact qH.gO hi _ hl hvs)).mono ?_;rintro e w' ⟨v,x,β',s',rfl,hi',hx,rfl⟩;refine⟨v,.d (.lit u),β,env,s,rfl,hst.grow hi'.size hi'.io fun b hb=>hi'.sk b hb fun id hq=>hq.elim,?_,hk⟩;simp only[AV.ok,D.ok]at hx⊢;exact hx
theorem Ov{α:Type}{f:α->D}[FV f](x:α):∃u,f x=.lit u:=by
 have h:=FV.lit (f:=f) x;cases hx:f x with
 |lit u=>exact⟨u,rfl⟩
 |_=>rw[hx]at h;cases h
theorem uh.Wp{α:Type}{f:α->D}{e:Nat}[xC f e]{s:gA}{id t n:Nat}{xs:List α}(h:sat s id=.ij t e n (gQ f xs))(hn:n=xs.length):uh s (.jM e id n) (.d (gu e f xs)):=by
 subst hn;have hf:wI s id (xs.map f):=wI.ij f xs h fun x=>xC.len x
 refine .ij hf ?_;have:=zb (id:=id) (e:=e) (f:=f) (xs:=xs) (n:=xs.length) rfl;exact this
section
variable{α γ:Type}{P:Program}{k0 f:Nat}{args env:List AV}{s:gA}{d:Option Nat}{R:List AV->gA->Prop}{x:Option α}{β:Type}{K:α->Option β}{r:β}{q:α->Prop}
theorem U4{enc:γ->D}[FV enc]{g:α->γ}{dz:List AV}[i:gP x fun a=>gG P f dz [] 0 fun x s'=>x=.d (enc (g a))/\s'=[]](h:Pq x K r)(hk:∀a,x=some a->K a=some r->q a)
 (hl:qH s args dz:=by repeat' (first|exact qH.nil|refine qH.cons ?_ ?_|refine uh.fn ?_ ?_|exact uh.ptr rfl rfl|exact uh.Wp rfl (by simp)|exact uh.d (AV.le_refl _)|refine uh.d ?_;exact lH))
 (e:∀a,R (gU d env (.d (enc (g a)))) s=q a:=by intro a;first|((conv=>lhs;simp(maxSteps:=1000000) (disch:=omega)only[go_sem,kW,kV,lZ,lX,bO,bf,bt,Nat.reduceAdd,Nat.reduceSub,Nat.reduceLeDiff,Nat.reduceEqDiff,Nat.reduceLT,Int.reduceToNat,reduceIte,reduceCtorEq])<;>rfl)|rfl):kR P k0 f args env s d R:=by
 obtain⟨a,h1,h2⟩:=bind_some h;obtain⟨u,hu⟩:=Ov (f:=enc) (g a);have hc:=i.c h1;have he:=(e a).symm▸hk a h1 h2;rw[hu]at hc he;exact Gi (hc.mono fun _ _ ⟨h,_⟩=>⟨_,AV.le_refl _,h⟩) hl he
end
attribute [go_sem] List.set_cons_zero List.set_cons_succ
attribute [go_sem] ne_eq not_false_eq_true
section
variable{α γ:Type}[Inhabited α]{f:α->D}{f':γ->D}{e e' n k0:Nat}{s:gA}{env:List AV}{xs:List α}{y y':α}{ys:List γ}{i k:Nat}
end
attribute [go_sem] Sum.elim_inl Sum.elim_inr
section
variable{P:Program}{k0 f:Nat}{args env:List AV}{s:gA}{d:Option Nat}{R:List AV->gA->Prop}
end
section
variable{P:Program}{k:Nat}{Q:Post}{env:List AV}{s:gA}
end
section
variable{E:Ending->Value->Prop}{P:Program}{f:Nat}
end
section
variable{P:Program}{k:Nat}{Q:Post}{env:List AV}{s:gA}{K:List AV->gA->Prop}{pv:Value}
attribute [go_sem] okB
end
mutual
def AV.tY(id:Nat)(cs:List AV):AV->AV
 |.ptr j off=>if j=id then .pa (cs.drop off)else .ptr j off
 |.fn f a b=>.fn f (AV.tI id cs a) (AV.tI id cs b)
 |.pa xs=>.pa (AV.tI id cs xs)
 |.agg xs=>.agg (AV.tI id cs xs)
 |.l_ xs=>.l_ (AV.tI id cs xs)
 |.hM=>.hM
 |.d x=>.d x
 |.own e j xs=>AV.jU (gJ id) (.own e j xs)
 |.mm e j off len=>AV.jU (gJ id) (.mm e j off len)
 |.pv xs=>.pv xs
 |.jM e j n=>AV.jU (gJ id) (.jM e j n)
 |.kH j k off=>AV.jU (gJ id) (.kH j k off)
 |.Ac e xs=>.Ac e xs
 |.dp x=>.dp x
 |.mp j=>AV.jU (gJ id) (.mp j)
def AV.tI(id:Nat)(cs:List AV):List AV->List AV
 |[]=>[]
 |x::xs=>AV.tY id cs x::AV.tI id cs xs
end
section
variable{β β':gI}{O O':Own}{w:World}{id:Nat}{cs:List AV}
mutual
theorem Mc(hp:∀off v,AV.ok β O w (.ptr id off) v->AV.ok β' O' w (.pa (cs.drop off)) v)(hk:∀x v,AV.ok β O w x v->AV.ok β' O' w (x.jU (gJ id)) v)(hO:∀b o v,w.cell? ⟨b,o,none⟩=some v->¬O b o->¬O' b o):
 ∀(x:AV)(v:Value),AV.ok β O w x v->AV.ok β' O' w (x.tY id cs) v
 |.ptr j off,v,h=>by
  simp only[AV.tY];by_cases hj:j=id
  ·subst hj;rw[ah rfl];exact hp off v h
  ·rw[ay hj];have:=hk _ _ h;simpa only[AV.jU,gJ,ay hj]using this
 |.fn f a b,v,h=>by
  simp only[AV.tY,AV.ok]at h⊢;obtain⟨fs,cs',rfl,h1,h2⟩:=h;exact⟨fs,cs',rfl,xU hp hk hO a _ h1,xU hp hk hO b _ h2⟩
 |.pa xs,v,h=>by
  simp only[AV.tY,AV.ok]at h⊢;obtain⟨b,o,vs,rfl,h1,h2⟩:=h;exact⟨b,o,vs,rfl,fun j u hj=>⟨(h1 j u hj).1,hO _ _ _ (h1 j u hj).1 (h1 j u hj).2.1,(h1 j u hj).2.2⟩,xU hp hk hO xs _ h2⟩
 |.agg xs,v,h=>by
  simp only[AV.tY,AV.ok]at h⊢;obtain⟨vs,rfl,h1,h2⟩:=h;exact⟨vs,rfl,h1,xU hp hk hO xs _ h2⟩
 |.l_ xs,v,h=>by
  simp only[AV.tY,AV.ok]at h⊢;obtain⟨vs,rfl,h2⟩:=h;exact⟨vs,rfl,xU hp hk hO xs _ h2⟩
 |.hM,v,h=>by simp[AV.tY,AV.ok]
 |.d x,v,h=>by have:=hk _ _ h;simpa only[AV.jU,AV.tY]using this
 |.own e j xs,v,h=>by simp only[AV.tY];exact hk _ _ h
 |.mm e j off len,v,h=>by simp only[AV.tY];exact hk _ _ h
 |.pv xs,v,h=>by have:=hk _ _ h;simpa only[AV.jU,AV.tY]using this
 |.jM e j n,v,h=>by simp only[AV.tY];exact hk _ _ h
 |.kH j k off,v,h=>by simp only[AV.tY];exact hk _ _ h
 |.Ac e xs,v,h=>by have:=hk _ _ h;simpa only[AV.jU,AV.tY]using this
 |.dp x,v,h=>by simp[AV.tY,AV.ok]
 |.mp j,v,h=>by simp only[AV.tY];exact hk _ _ h
theorem xU(hp:∀off v,AV.ok β O w (.ptr id off) v->AV.ok β' O' w (.pa (cs.drop off)) v)(hk:∀x v,AV.ok β O w x v->AV.ok β' O' w (x.jU (gJ id)) v)(hO:∀b o v,w.cell? ⟨b,o,none⟩=some v->¬O b o->¬O' b o):
 ∀(xs:List AV)(vs:List Value),AV.gO β O w xs vs->AV.gO β' O' w (AV.tI id cs xs) vs
 |[],vs,h=>by simpa[AV.tI,AV.gO]using h
 |x::xs,vs,h=>by
  simp only[AV.tI,AV.gO]at h⊢;obtain⟨v,r,rfl,h1,h2⟩:=h;exact⟨v,r,rfl,Mc hp hk hO x v h1,xU hp hk hO xs r h2⟩
end
end
theorem gM.tY{k:Nat}{env:List AV}{s:gA}(id:Nat){t:Nat}{cs:List AV}(hid:k<=id)(ho:sat s id=.obj t cs):gM k env s (env.map (AV.tY id (AV.ia (gJ id) cs))) (ig id s):=fun C β a w hC hst=>by
 subst hC;have hi:=hst.inv;have hob:=hi.obs id;rw[ho]at hob;obtain⟨b,us,hb,hh,hone,pre,rst,hus,hpre⟩:=hob;have h2:=hi.kill id hid;have hblk:gw β s id b:=by unfold gw;rw[ho];exact hb
 have hnot:∀o,¬C.gD (gC β id .no) (ig id s) b o:=fun o hq=>by
  rcases hq with hq|hq
  ·have h1:=hi.low b o hq;have hown:own β s b o:=⟨id,by rw[ho];exact hb⟩;rcases hi.qb b o hown with h3|h3
   ·exact h1.2 h3
   ·omega
  ·obtain⟨j,hj⟩:=hq.block;have hj1:=tS hj;have hji:j≠id:=fun e=>by subst e;unfold gw at hj;rw[qV,ah rfl]at hj;exact hj
   exact hji (hi.inj j id b hj1 hblk)
 have hpre2:=BN (C:=C) (s:=s) (id:=id) hpre;refine⟨_,hst.defers,h2,by rw[aK];exact hst.len,fun i x hx=>?_⟩;rw[bk]at hx;obtain⟨y,hy,rfl⟩:=aF.1 hx;refine Mc (β:=β) (O:=C.gD β s) (fun off v hv=>?_) (fun x v h=>uQ h) (fun b o v _ hn h=>hn (h.imp (fun x=>x) uz)) y _ (hst.env i y hy);simp only[AV.ok]at hv;obtain⟨b2,hb2,rfl⟩:=hv;rw[hb]at hb2;cases hb2;simp only[AV.ok];refine⟨b,off,pre.drop off,rfl,fun q u hq=>?_,xe off hpre2⟩;rw[cz]at hq;have hq2:us.toList[off+q]?=some u:=by rw[hus,aT (aP.1 hq).1];exact hq
 refine⟨?_,hnot _,hone u (bR hq2)⟩;simp only[World.cell?,hh,cw,av,aI];simpa using hq2
section
variable{id:Nat}{cs:List AV}
theorem Mb:AV.tY id cs .hM=.hM:=by simp only[AV.tY]
theorem U2{x:D}:AV.tY id cs (.d x)=.d x:=by simp only[AV.tY]
theorem R_{xs:List D}:AV.tY id cs (.pv xs)=.pv xs:=by simp only[AV.tY]
theorem OP{j off:Nat}:AV.tY id cs (.ptr j off)=if j=id then .pa (cs.drop off)else .ptr j off:=by simp only[AV.tY]
theorem OQ{xs:List AV}:AV.tY id cs (.l_ xs)=.l_ (AV.tI id cs xs):=by simp only[AV.tY]
theorem R8{f:Nat}{a b:List AV}:AV.tY id cs (.fn f a b)=.fn f (AV.tI id cs a) (AV.tI id cs b):=by simp only[AV.tY]
theorem R9{xs:List AV}:AV.tY id cs (.pa xs)=.pa (AV.tI id cs xs):=by simp only[AV.tY]
theorem Md:AV.tI id cs []=[]:=rfl
theorem JJ{x:AV}{xs:List AV}:AV.tI id cs (x::xs)=AV.tY id cs x::AV.tI id cs xs:=by simp only[AV.tI]
end
attribute [go_sem] Mb U2 R_ OP OQ R8 R9 Md JJ ig
theorem Lr{P:Program}{ρ:Go.Shelf.Ren}(L:Go.Proofs.Lays8.n4 P ρ){i0:TypeInfo}{z:Value}(hi0:P.info? (ρ.t 25)=some i0)(hz0:i0.zero=some z)(hs0:0<i0.size)(hb0:0<i0.bytes)
 (hz1:z.cells.size=i0.size) (hz2:∀v∈z.cells.toList,one v=true) {n:Int} (h0:0<=n) (hb:n*i0.bytes<=140737488355328):
 gG P (ρ.f 4) [.d (.sl 0 (some true) []),.d (iD n)] [] 0 fun x s'=>x=.own i0.size 0 []/\s'=[(0,.tok (ρ.t 25) i0.size 0)]:=fun C vs hs hk hinv hargs=>by
 obtain⟨m,rfl⟩:=Int.eq_ofNat_of_zero_le h0;have hst:St C C.β [] C.s {tmps:=#[],defers:=[]} C.w:=⟨.nil,hinv,rfl,fun i x hx=>by simp at hx⟩;have hvs:vs=#[.slice none 0 0,.int .i64 m]:=by
  simp only[AV.gO,AV.ok]at hargs;obtain⟨v,r,h1,h2,v2,r2,h3,h4,h5⟩:=hargs;have h2:=GY h2;have h4:=qK (β:=C.β) (O:=C.gD C.β C.s) (w:=C.w) (by simp only[AV.ok];exact h4);subst h2 h4 h5 h3;exact cG (by simpa[uy]using h1)
 subst hvs;have hd:sat C.s 0=.dead:=by rw[hs];rfl
 rcases fo m with rfl|hm
 ·refine(Go.Proofs.Any8.slices_Grow_room L none 0 0 0 C.w (au _) gq gq gq).mono ?_;rintro e w' ⟨rfl,rfl⟩;obtain⟨h1,_⟩:=hst.Ho (id:=0) (t:=ρ.t 25) (e:=i0.size) hd;rw[hs]at h1;exact⟨_,.own i0.size 0 [],_,_,rfl,h1.inv,DR (by simp[gC]),rfl,rfl⟩
 ·have hmb:m*i0.bytes<=140737488355328:=by
   have:((m*i0.bytes:Nat):Int)<=140737488355328:=by simpa using hb
   omega
  have hm47:m<=140737488355328:=bN (cC _ hb0) hmb;refine(Go.Proofs.Any8.slices_Grow_grow L i0 z hi0 hz0 hs0 none 0 0 m [] C.w (au _) gq (by simpa using hmb) gq (by simp) (by simp) (by simp)).mono ?_;rintro e w' ⟨rfl,rfl⟩;have hcap1:=grownCap_ge C.w (0+m) 0 (ρ.t 25);have hcap2:=eA C.w (0+m) 0 (ρ.t 25) (by unfold Go.maxLen;omega);obtain⟨β',h1,h2⟩:=vX hst.drew (id:=0) (t:=ρ.t 25) (e:=i0.size) (n:=0) (cap:=grownCap C.w (0+m) 0 (ρ.t 25))
   (c:=([]:List Value).toArray++Builtin.zeroCells z.cells (0+m-0)++Builtin.zeroCells z.cells (grownCap C.w (0+m) 0 (ρ.t 25)-(0+m))) (xs:=[])
   (by have:=hst.inv.obs 0;rw[hd]at this;rw[show C.β 0=.no from this];trivial)
   (by
    rw[dD,dD,ff,ff,hz1];simp only[dc,bG,aX,Nat.sub_zero];rw[<-bC];congr 1;simp only[aX]at hcap1;omega)
   (d_ _) (by unfold Go.maxLen at hcap2;omega)
   (fun v hv=>by
    simp only[Array.toList_append,aM]at hv;rcases hv with(hv|hv)|hv
    ·simp at hv
    ·exact qq hz2 _ v hv
    ·exact qq hz2 _ v hv)
   rfl (fun _ _ _ _=>by simp[D.row])
  rw[hs]at h1 h2;exact⟨_,.own i0.size 0 [],β',_,rfl,h1.inv,h2,rfl,rfl⟩
end kJ
