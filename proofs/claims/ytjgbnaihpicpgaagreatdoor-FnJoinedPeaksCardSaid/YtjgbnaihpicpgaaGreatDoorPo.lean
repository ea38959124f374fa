/- A part of the proof about FnJoinedPeaks (PA, XL, KG, PB, PC, U4, V4, TA, TB, TC, UI, UA, UB, VP, VQ). -/
import Derived.Test.YtjgbnaihpicpgaaGreatDoorPl
import Derived.Test.YtjgbnaihpicpgaaGreatDoorPn
set_option linter.all false
namespace Go.Proofs.YtjgbnaihpicpgaaGreatDoor
open Go mm Tm
theorem lg{n:Int}(h1: -9223372036854775808<=n)(h2:n<9223372036854775808):IntKind.i64.wrap n=n:=by rw[wrap_i64 h1 h2]
theorem iG{α:Type}[Inhabited α]{xs:List α}{i:Nat}(h:i<xs.length):xs.getD i default=xs[i]:=by simp[ay,aB h]
theorem jM{α:Type}[Inhabited α]{xs:List α}{i:Nat}(h:i<xs.length):xs.getD i default∈xs:=by rw[iG h];exact bC h
theorem xk{α:Type}[Inhabited α]{xs:List α}{p:α->Bool}{f:Int->Option gR}
 (h:∀(i:Nat)(x:α),i<xs.length->(i:Int)<xs.length->x∈xs->xs.getD i default=x->f i=some (if p x=true then .inl ((i:Int)+1)else .inr false)) (he:f xs.length=some (.inr true)):iw f 0=some (xs.all p):=by
 have key:∀k i:Nat,i+k=xs.length->iw f (i:Int)=some ((xs.drop i).all p):=by
  intro k;induction k with
  |zero=>
   intro i hi;obtain rfl:i=xs.length:=by omega
   rw[iz he];simp
  |succ k ih=>
   intro i hi;have hlt:i<xs.length:=by omega
   have e:=h i _ hlt gY (bC hlt) (iG hlt);rw[aA hlt,eI];cases hp:p xs[i]with
   |true=>
    rw[hp,ah rfl]at e;rw[iI e];have:=ih (i+1) gY;rw[show((i:Int)+1)=((i+1:Nat):Int) by omega,this];simp
   |false=>
    rw[hp]at e;simp only[aj,aE]at e;rw[iz e];simp
 simpa using key xs.length 0 gY
theorem OC{α β:Type}[Inhabited α]{xs:List α}{p:α->Bool}{f:Int->Option (Int⊕β)}{y n:β}
 (h:∀(i:Nat)(x:α),i<xs.length->(i:Int)<xs.length->x∈xs->xs.getD i default=x->f i=some (if p x=true then .inr y else .inl ((i:Int)+1))) (he:f xs.length=some (.inr n)):
 iw f 0=some (if xs.any p=true then y else n):=by
 have key:∀k i:Nat,i+k=xs.length->iw f (i:Int)=some (if(xs.drop i).any p=true then y else n):=by
  intro k;induction k with
  |zero=>
   intro i hi;obtain rfl:i=xs.length:=by omega
   rw[iz he];simp
  |succ k ih=>
   intro i hi;have hlt:i<xs.length:=by omega
   have e:=h i _ hlt gY (bC hlt) (iG hlt);rw[aA hlt,e_];cases hp:p xs[i]with
   |false=>
    rw[hp]at e;simp only[aj,aE]at e;rw[iI e];have:=ih (i+1) gY;rw[show((i:Int)+1)=((i+1:Nat):Int) by omega,this];simp
   |true=>
    rw[hp,ah rfl]at e;rw[iz e];simp
 simpa using key xs.length 0 gY
abbrev Small{α:Type}(xs:List α):Prop:=xs.length<1099511627776
def Qm(n:Int):Bool:=decide (0<=n)&&decide (n<=3)
def jR(a:gv):Bool:=decide (1<=a.length)&&decide (a.length<=8)&&a.all Qm
theorem xA{a:gv}:jR a=true<->1<=a.length/\a.length<=8/\∀n∈a,0<=n/\n<=3:=by simp[jR,Qm,and_assoc]
theorem lD(x lo hi:Int):kX x lo hi=some (decide (lo<=x)&&decide (x<=hi)):=by
 unfold kX;by_cases h1:lo<=x<;>by_cases h2:x<=hi<;>simp[h1,h2]
theorem xY(a:gv):qH a=some (jR a):=by
 unfold qH;by_cases h1:(a.length:Int)<1
 ·have:¬1<=a.length:=by omega
  simp[h1,jR,this]
 ·by_cases h2:8<(a.length:Int)
  ·have:¬a.length<=8:=by omega
   simp[h1,h2,jR,this]
  ·have e1:1<=a.length:=by omega
   have e2:a.length<=8:=by omega
   simp only[h1,h2,aU,aj,aE,jR,e1,e2,aT,cn];refine xk (fun i x hi hi' _ hx=>?_) (by simp[rQ]);have hw:IntKind.i64.wrap ((i:Int)+1)=i+1:=lg gY gY;simp only[rQ,hi',aT,aC,aq,hw,show(0:Int)<=i by omega,bK,Qm,hx];by_cases c1:x<0
   ·simp[c1,show ¬0<=x by omega]
   ·by_cases c2:3<x
    ·simp[c1,c2,show ¬x<=3 by omega]
    ·simp[c1,c2,show 0<=x by omega,show x<=3 by omega]
theorem ya(a:gv):qQ a=some (jR a):=by
 unfold qQ;simp only[lD,aa];by_cases h:1<=a.length/\a.length<=8
 ·have e1:(1:Int)<=a.length:=by omega
  have e2:(a.length:Int)<=8:=by omega
  simp only[e1,e2,aT,eJ,aC,jR,h.1,h.2,cn];refine xk (fun i x hi hi' _ hx=>?_) (by simp[rV]);have hw:IntKind.i64.wrap ((i:Int)+1)=i+1:=lg gY gY;simp only[rV,hi',aT,aC,aq,hw,show(0:Int)<=i by omega,bK,Qm,hx,lD,aa];by_cases h3:0<=x<;>by_cases h4:x<=3<;>simp[h3,h4]
 ·have:(decide ((1:Int)<=a.length)&&decide ((a.length:Int)<=8))=false:=by simp;omega
  rw[this];have:jR a=false:=by
   cases hs:jR a with
   |false=>rfl
   |true=>have:=xA.1 hs;omega
  simp[this]
theorem x_{x:gv}(h0:0<x.length)(hs:Small x):jZ True (jG x) fun m=>∀b,b<=m<->∀y∈x,b<=y:=by
 unfold jG;have h1:¬(x.length:Int)<1:=by omega
 have h2:(0:Int)<x.length:=by omega
 simp only[h1,h2,aU,aj,aE,ek,bK,aC];refine jZ.loop (fun s:Int×Int=>∃i:Nat,s.2=(i:Int)/\1<=i/\i<=x.length/\∀b,b<=s.1<->∀y∈x.take i,b<=y) (fun s:Int×Int=>x.length-s.2.toNat) ⟨1,rfl,aF _,gY,fun b=>?_⟩ ?_
 ·cases x with
  |nil=>simp at h0
  |cons y x=>simp
 ·rintro⟨m,i'⟩ ⟨i,rfl,h3,h4,h5⟩;simp only[mV]at h5⊢;by_cases hi:i<x.length
  ·have hi':(i:Int)<x.length:=by omega
   have hw:IntKind.i64.wrap ((i:Int)+1)=i+1:=lg gY gY;simp only[hi',aT,aC,show(0:Int)<=i by omega,bK,aq,iG hi,hw];refine .some ⟨⟨i+1,by simp,gY,gY,fun b=>?_⟩,by simp;omega⟩;rw[ey,aB hi];have:=h5 b;simp only[aN,Option.toList_some,aX];split
   ·constructor
    ·rintro hb y (hy|rfl)
     ·exact(h5 b).1 gY y hy
     ·exact hb
    ·intro hb;exact hb _ (.inr rfl)
   ·constructor
    ·rintro hb y (hy|rfl)
     ·exact(h5 b).1 hb y hy
     ·omega
    ·intro hb;exact(h5 b).2 fun y hy=>hb y (.inl hy)
  ·have hi':¬(i:Int)<x.length:=by omega
   simp only[hi',aU,aj,aE,aK];refine .some fun b=>?_
   rw[h5 b,bL gY]
theorem tX{a:gv}(ha:jR a=true)(x:Int):lR a x<=3:=by
 have:=(xA.1 ha).2.2;unfold lR;split
 ·omega
 ·rw[ay];cases h:a[x.toNat]? with
  |none=>simp
  |some y=>have:=this y (bO h);simp;omega
theorem qg{a:gv}(ha:jR a=true){x:Int}(hx:x<a.length):ny a x=some (lR a x:Int):=by
 unfold ny lR;by_cases h:x<0
 ·simp[h]
 ·have h2:0<=x:=by omega
  simp only[h,aU,aj,aE,h2,hx,bK,aC];have hl:x.toNat<a.length:=by omega
  have:=(xA.1 ha).2.2 _ (jM hl);rw[show a.getD x.toNat 0=a.getD x.toNat default from rfl];rw[show((a.getD x.toNat default).toNat:Int)=a.getD x.toNat default by omega]
theorem tG{a t:gv}(ha:jR a=true)(hs:Small t){i:Nat}(hi:i<=t.length):nA a t i=
 some (match t.drop i with|[]=>(-1,(i:Int))|x::_=>if x<a.length then((lR a x:Int),(i:Int)+1)else(-1,i)):=by
 unfold nA;by_cases h:i<t.length
 ·have h1:¬(t.length:Int)<=i:=by omega
  have h2:(i:Int)<t.length:=by omega
  have hw:IntKind.i64.wrap ((i:Int)+1)=i+1:=lg gY gY;have hw2:IntKind.i64.wrap ((i:Int)+1-1)=i:=by rw[lg gY gY];omega
  rw[aA h];simp only[h1,h2,aU,aj,aE,show(0:Int)<=i by omega,bK,aC,aq,iG h,hw,hw2];by_cases h3:t[i]<a.length
  ·have h4:¬(a.length:Int)<=t[i]:=by omega
   simp[h3,h4,qg ha h3]
  ·have h4:(a.length:Int)<=t[i]:=by omega
   simp[h3,h4]
 ·have h1:(t.length:Int)<=i:=by omega
  rw[bG gY];simp[h1]
theorem E4{a t:gv}{i k:Nat}(h:i<t.length):Tm.skip a (t.drop i) (k+1)=if FL a (t[i])then Tm.skip a (t.drop (i+1)) (k+lR a t[i])else none:=by rw[aA h,ud]
def Dj(a t:gv)(i:Nat):Int:=match Tm.skip a (t.drop i) 1 with|some r=>(t.length:Int)-r.length|none=> -1
theorem Pc{a:gv}:∀{t r:gv}{k:Nat},Tm.skip a t k=some r->r.length+k<=t.length:=by
 intro t r k h;obtain⟨u,rfl,hu⟩:=Ar h;have:=hu.len;simp;omega
theorem uF{a t:gv}(ha:jR a=true)(hs:Small t)(hm:∀x∈t, -24<=x){i:Nat}(hi:i<=t.length):lz a t i=some (Dj a t i):=by
 have key:jZ True (kS a t i) fun r=>match Tm.skip a (t.drop i) 1 with|some q=>r=(true,(t.length:Int)-q.length)|none=>r.1=false:=by
  unfold kS;refine jZ.loop (fun s=>∃(k c:Nat),s=((k:Int),(c:Int))/\c<=t.length/\k<=1+3*c/\Tm.skip a (t.drop c) k=Tm.skip a (t.drop i) 1) (fun s=>t.length-s.2.toNat) ⟨1,i,rfl,hi,gY,rfl⟩ ?_;rintro _ ⟨k,c,rfl,h1,h2,h3⟩;simp only[nN];cases k with
  |zero=>
   simp only[show ¬(0:Int)<((0:Nat):Int) by omega,aU,aj,aE,aK];refine .some ?_;simp only[zL];rw[<-h3,sH];simp;omega
  |succ k=>
   simp only[show(0:Int)<((k+1:Nat):Int) by omega,aT,aC,tG ha hs h1,aa];by_cases hc:c<t.length
   ·rw[aA hc];rw[E4 hc]at h3;simp only;have hx:=hm _ (bC hc);by_cases hlt:t[c]<a.length
    ·have ho:FL a t[c]:=⟨hx,hlt⟩;rw[ah ho]at h3;have hle:=tX ha t[c];simp only[hlt,aC,show ¬((lR a t[c]:Nat):Int)<0 by omega,aU,aj,aE];have hw1:IntKind.i64.wrap (((k+1:Nat):Int)+(lR a t[c]:Int))=(k+1:Nat)+lR a t[c]:=lg gY gY;rw[hw1,lg gY gY];refine .some ⟨⟨k+lR a t[c],c+1,by simp;omega,gY,gY,h3⟩,by simp;omega⟩
    ·have ho:¬FL a t[c]:=fun h=>hlt h.2
     rw[ak ho]at h3;simp only[hlt,aE,show(-1:Int)<0 by omega,aT,aC,aK];refine .some ?_;simp only[zL];rw[<-h3];trivial
   ·rw[bG gY,HA]at h3;rw[bG gY];simp only[show(-1:Int)<0 by omega,aT,aC,aK];refine .some ?_;simp only[zL];rw[<-h3];trivial
 unfold lz;obtain⟨r,h1,h2⟩:=key.get;rw[h1,aa];unfold Dj;cases h:Tm.skip a (t.drop i) 1 with
 |none=>rw[h]at h2;simp only at h2;simp[h2]
 |some q=>rw[h]at h2;simp only at h2;simp[h2]
def iV(a t:gv):Bool:=jR a&&(decide (1<=t.length)&&decide (t.length<=60))&&decide (Wf a 1 t)
theorem iB{a t:gv}:iV a t=true<->jR a=true/\1<=t.length/\t.length<=60/\Wf a 1 t:=by simp[iV,and_assoc]
theorem CF{a t:gv}:Dj a t 0=(t.length:Int)<->Wf a 1 t:=by
 unfold Dj Wf;rw[bF];cases h:Tm.skip a t 1 with
 |none=>
  simp only[reduceCtorEq,iff_false];try omega
 |some q=>
  simp only[aJ];constructor
  ·intro h;exact b_.1 gY
  ·rintro rfl;simp
theorem qI(a t:gv):mY a t=some (iV a t):=by
 unfold mY iV;rw[xY,aa];cases ha:jR a with
 |false=>simp
 |true=>
  simp only[aC,cn];by_cases h1:1<=t.length
  ·by_cases h2:t.length<=60
   ·have e1:(0:Int)<t.length:=by omega
    have e2:(t.length:Int)<=60:=by omega
    simp only[e1,e2,h1,h2,aT,aC,eJ,cn];obtain⟨m,h3,h4⟩:=(x_ (x:=t) gY (show t.length<_ by omega)).get;rw[h3,aa];by_cases h5: -24<=m
    ·simp only[h5,aT,aC];have:=uF ha (show t.length<_ by omega) ((h4 _).1 h5) (i:=0) gY;rw[show((0:Nat):Int)=0 by rfl]at this;rw[this,aa];by_cases hw:Wf a 1 t
     ·simp[hw,CF.2 hw]
     ·have:=mt CF.1 hw;simp[hw,this]
    ·have hw:¬Wf a 1 t:=fun hw=>h5 ((h4 _).2 fun y hy=>(hw.all y hy).1)
     simp[h5,hw]
   ·have e2:¬(t.length:Int)<=60:=by omega
    have e1:(0:Int)<t.length:=by omega
    simp[e1,e2,h2]
  ·have e1:¬(0:Int)<t.length:=by omega
   simp only[e1,h1,aU,aj,aE,Bool.false_and]
theorem Ax{a:gv}(ha:jR a=true)(x:Int):qx a x=some (if FL a x then(lR a x:Int)else -1):=by
 have hl:=(xA.1 ha).2.1;unfold qx;simp only[lD,aa,lg (n:=(a.length:Int)-1) gY gY];by_cases h1: -24<=x
 ·by_cases h2:x<= -1
  ·simp[h1,h2,FL,lR,show x<0 by omega,show x<(a.length:Int) by omega]
  ·by_cases h3:x<a.length
   ·have hx:x.toNat<a.length:=by omega
    have:=(xA.1 ha).2.2 _ (jM hx);simp only[h1,h2,h3,FL,show 0<=x by omega,show x<=(a.length:Int)-1 by omega,aT,aU,Bool.and_false,eJ,aj,aE,bK,aC,lR,show ¬x<0 by omega];rw[show a.getD x.toNat 0=a.getD x.toNat default from rfl];rw[show((a.getD x.toNat default).toNat:Int)=a.getD x.toNat default by omega]
   ·simp[h1,h2,h3,FL,show ¬x<=(a.length:Int)-1 by omega]
 ·simp[h1,FL,show ¬0<=x by omega]
theorem uL{a t:gv}(ha:jR a=true)(hs:Small t){i:Nat}(hi:i<=t.length):ox a t i=some (Dj a t i):=by
 have key:jZ True (ox a t i) (·=Dj a t i):=by
  unfold ox;refine jZ.loop (fun s:Int×Int=>∃(k c:Nat),s=(((k+1:Nat):Int),(c:Int))/\c<=t.length/\k<=3*c/\Tm.skip a (t.drop c) (k+1)=Tm.skip a (t.drop i) 1) (fun s:Int×Int=>t.length-s.2.toNat) ⟨0,i,rfl,hi,gY,rfl⟩ ?_;rintro _ ⟨k,c,rfl,h1,h2,h3⟩;simp only[uM];by_cases hc:c<t.length
  ·rw[E4 hc]at h3;have hc':(c:Int)<t.length:=by omega
   simp only[hc',aT,aC,show(0:Int)<=c by omega,bK,aq,iG hc,Ax ha,aa];have hle:=tX ha t[c];by_cases ho:FL a t[c]
   ·rw[ah ho]at h3;simp only[ho,aC,show ¬((lR a t[c]:Nat):Int)<0 by omega,aU,aj,aE];rw[lg (n:=((k+1:Nat):Int)+(lR a t[c]:Int)) gY gY,lg (n:=((k+1:Nat):Int)+(lR a t[c]:Int)-1) gY gY,lg (n:=(c:Int)+1) gY gY];cases hk:k+lR a t[c]with
    |zero=>
     rw[hk,sH]at h3;have:(((k+1:Nat):Int)+(lR a t[c]:Int)-1==0)=true:=by simp;omega
     simp only[this,aC,aK];refine .some ?_;simp only[zL,Dj];rw[<-h3];simp;omega
    |succ q=>
     have:¬(((k+1:Nat):Int)+(lR a t[c]:Int)-1==0)=true:=by simp;omega
     simp only[this,aE];refine .some ⟨⟨q,c+1,by simp;omega,gY,gY,by rw[<-hk];exact h3⟩,by simp;omega⟩
   ·rw[ak ho]at h3;simp only[ho,aE,show(-1:Int)<0 by omega,aT,aC,aK];refine .some ?_;simp only[zL,Dj];rw[<-h3]
  ·have hc':¬(c:Int)<t.length:=by omega
   rw[bG gY,HA]at h3;simp only[hc',aU,aj,aE,aK];refine .some ?_;simp only[zL,Dj];rw[<-h3]
 exact key.eq
theorem oS(a t:gv):m_ a t=some (iV a t):=by
 unfold m_ iV;rw[ya,aa];cases ha:jR a with
 |false=>simp
 |true=>
  simp only[aC,cn,lD,aa];have e:(decide ((1:Int)<=t.length)&&decide ((t.length:Int)<=60))=(decide (1<=t.length)&&decide (t.length<=60)):=by
   congr 1<;>exact eG.2 gY
  rw[e];by_cases h:1<=t.length/\t.length<=60
  ·simp only[h.1,h.2,aT,eJ,aC,cn];have:=uL ha (show Small t by show t.length<_;omega) (i:=0) gY;rw[show((0:Nat):Int)=0 by rfl]at this;rw[this,aa];by_cases hw:Wf a 1 t
   ·simp[hw,CF.2 hw]
   ·have:=mt CF.1 hw;simp[hw,this]
  ·have:(decide (1<=t.length)&&decide (t.length<=60))=false:=by simp;omega
   simp[this]
theorem yx{s:gv}(hs:Small s)(v:Int):jO s v=some (decide (v∈s)):=by
 have key:jZ True (jf s v) fun r=>0<=r<->v∈s:=by
  unfold jf;refine jZ.loop (fun i':Int=>∃i:Nat,i'=i/\i<=s.length/\v∉s.take i) (fun i':Int=>s.length-i'.toNat) ⟨0,rfl,gY,by simp⟩ ?_;rintro _ ⟨i,rfl,h1,h2⟩;simp only[jP];by_cases hi:i<s.length
  ·have hi':(i:Int)<s.length:=by omega
   simp only[hi',aT,aC,show(0:Int)<=i by omega,bK,aq,iG hi,lg (n:=(i:Int)+1) gY gY];by_cases hv:v=s[i]
   ·simp only[hv,cj,aC,aK];refine .some ?_;simp only[zL];exact⟨fun _=>bC hi,fun _=>by omega⟩
   ·have:¬(v==s[i])=true:=by simpa using hv
    simp only[this,aE];refine .some ⟨⟨i+1,by simp,gY,?_⟩,by simp;omega⟩;rw[ey,aB hi,aN];rintro(h|h)
    ·exact h2 h
    ·exact hv (by simpa using h)
  ·have hi':¬(i:Int)<s.length:=by omega
   simp only[hi',aU,aj,aE,aK];refine .some ?_;rw[bL gY]at h2;simp only[zL];exact⟨fun h=>by omega,fun h=>absurd h h2⟩
 unfold jO;obtain⟨r,h1,h2⟩:=key.get;rw[h1,aa];congr 1;exact eG.2 h2
theorem yb{s:gv}(hs:Small s)(v:Int):qS s v=some (decide (v∈s)):=by
 unfold qS;rw[OC (xs:=s) (p:=fun x=>x==v) (y:=true) (n:=false) (fun i x hi hi' _ hx=>?_) (by simp[rW])]
 ·congr 1;by_cases h:v∈s
  ·have:s.any (fun x=>x==v)=true:=ec.2 ⟨v,h,by simp⟩;simp[this,h]
  ·have:s.any (fun x=>x==v)=false:=by
    rw[fS];intro x hx he;have:x=v:=by simpa using he
    subst this;exact h hx
   simp[this,h]
 ·simp only[rW,hi',aT,aC,aq,show(0:Int)<=i by omega,bK,hx,lg (n:=(i:Int)+1) (by have:=hs;omega) (by have:=hs;omega)];by_cases h:(x==v)=true
  ·simp[h]
  ·simp[h]
def K4(l:gv)(x:Int):Bool:=decide (x<0->x∈l)
def wK(a:gv)(r:gv×gv):Bool:=iV a r.1&&(iV a r.2&&(decide (0<=r.1.headD 0)&&r.2.all (K4 r.1)))
def jN(s:gv×List gz):Bool:=jR s.1&&(decide (s.2.length<=12)&&s.2.all (wK s.1))
theorem Dx{l:gv}(h:0<l.length):l.getD 0 default=l.headD 0:=by cases l with|nil=>simp at h|cons x l=>rfl
theorem Bq(a:gv)(r:gv×gv):rF a r=some (wK a r):=by
 unfold rF wK;rw[qI,qI,aa];cases h1:iV a r.1 with
 |false=>simp
 |true=>
  rw[aa];cases h2:iV a r.2 with
  |false=>simp
  |true=>
   have e1:=iB.1 h1;have e2:=iB.1 h2;have e3:(0:Int)<r.1.length:=by omega
   simp only[aC,ek,e3,bK,cn,and_true];rw[Dx gY];by_cases h3:r.1.headD 0<0
   ·simp[-List.headD_eq_head?_getD,h3,show ¬0<=r.1.headD 0 by omega]
   ·simp only[h3,aU,aj,aE,show 0<=r.1.headD 0 by omega,aT,cn];refine xk (fun i x hi hi' _ hx=>?_) (by simp[qG]);simp only[qG,hi',aT,aC,aq,show(0:Int)<=i by omega,bK,hx,lg (n:=(i:Int)+1) gY gY,K4,
     yx (show Small r.1 by show r.1.length<_;omega),aa]
    by_cases h4:x<0<;>by_cases h5:x∈r.1<;>simp[h4,h5]
theorem Bu(a:gv)(r:gv×gv):rJ a r=some (wK a r):=by
 unfold rJ wK;rw[oS,oS,aa];cases h1:iV a r.1 with
 |false=>simp
 |true=>
  rw[aa];cases h2:iV a r.2 with
  |false=>simp
  |true=>
   have e1:=iB.1 h1;have e2:=iB.1 h2;have e3:(0:Int)<r.1.length:=by omega
   simp only[aC,ek,e3,bK,cn,and_true];rw[Dx gY];by_cases h3:r.1.headD 0<0
   ·simp[-List.headD_eq_head?_getD,h3,show ¬0<=r.1.headD 0 by omega]
   ·simp only[h3,aU,aj,aE,show 0<=r.1.headD 0 by omega,aT,cn];refine xk (fun i x hi hi' _ hx=>?_) (by simp[qP]);simp only[qP,hi',aT,aC,aq,show(0:Int)<=i by omega,bK,hx,lg (n:=(i:Int)+1) gY gY,K4,
     yb (show Small r.1 by show r.1.length<_;omega),aa]
    by_cases h4:x<0<;>by_cases h5:x∈r.1<;>simp[h4,h5]
theorem pH(s:gv×List gz):lK s=some (jN s):=by
 unfold lK jN;rw[xY,aa];cases h1:jR s.1 with
 |false=>simp
 |true=>
  by_cases h2:12<(s.2.length:Int)
  ·simp[h2,show ¬s.2.length<=12 by omega]
  ·simp only[aC,h2,aU,aj,aE,cn,show s.2.length<=12 by omega,aT];refine xk (fun i x hi hi' _ hx=>?_) (by simp[pI]);simp only[pI,hi',aT,aC,aq,show(0:Int)<=i by omega,bK,hx,lg (n:=(i:Int)+1) gY gY,Bq,aa];cases wK s.1 x<;>simp
theorem sd(s:gv×List gz):n_ s=some (jN s):=by
 unfold n_ jN;rw[ya,aa];cases h1:jR s.1 with
 |false=>simp
 |true=>
  by_cases h2:12<(s.2.length:Int)
  ·simp[h2,show ¬s.2.length<=12 by omega]
  ·simp only[aC,h2,aU,aj,aE,cn,show s.2.length<=12 by omega,aT];refine xk (fun i x hi hi' _ hx=>?_) (by simp[pL]);simp only[pL,hi',aT,aC,aq,show(0:Int)<=i by omega,bK,hx,lg (n:=(i:Int)+1) gY gY,Bu,aa];cases wK s.1 x<;>simp
theorem Oa{s t:gv}(hl:s.length=t.length):(s==t)=decide (∀i<s.length,s.getD i default=t.getD i default):=by
 have:(s==t)=decide (s=t):=by by_cases h:s=t<;>simp[h]
 rw[this];refine eG.2 ⟨fun h=>by subst h;simp,fun h=>?_⟩;refine List.ext_getElem hl fun i h1 h2=>?_
 have:=h i h1;rwa [iG h1,iG h2]at this
theorem Kl{s t:gv}(hs:Small s)(hl:s.length=t.length){f:Int->Option gR}
 (h:∀i:Nat,i<s.length->f i=some (if s.getD i default=t.getD i default then .inl ((i:Int)+1)else .inr false)) (he:f s.length=some (.inr true)):iw f 0=some (s==t):=by
 have key:jZ True (iw f 0) fun r=>r=decide (∀i<s.length,s.getD i default=t.getD i default):=by
  refine jZ.loop (fun i':Int=>∃i:Nat,i'=i/\i<=s.length/\∀j<i,s.getD j default=t.getD j default) (fun i':Int=>s.length-i'.toNat) ⟨0,rfl,gY,gY⟩ ?_;rintro _ ⟨i,rfl,h1,h2⟩;by_cases hi:i<s.length
  ·rw[h i hi];by_cases e:s.getD i default=t.getD i default
   ·rw[ah e];refine .some ⟨⟨i+1,by simp,gY,fun j hj=>?_⟩,by simp;omega⟩;rcases cI j i with h3|h3
    ·exact h2 j h3
    ·obtain rfl:j=i:=by omega
     exact e
   ·rw[ak e];refine .some ?_;simp only[zL];exact(eN fun h=>e (h i hi)).symm
  ·obtain rfl:i=s.length:=by omega
   rw[he];refine .some ?_;simp only[zL];exact(eU h2).symm
 rw[Oa hl];obtain⟨r,h1,h2⟩:=key.get;rw[h1,h2]
theorem ou{s t:gv}(hs:Small s):iQ s t=some (s==t):=by
 unfold iQ;by_cases hl:s.length=t.length
 ·have:¬((s.length:Int) != (t.length:Int))=true:=by simp;omega
  rw[ak this];refine Kl hs hl (fun i hi=>?_) (by simp[kM]);simp only[kM,show(i:Int)<s.length by omega,show(i:Int)<t.length by omega,aT,aC,show(0:Int)<=i by omega,bK,aq,
   lg (n:=(i:Int)+1) (by have:=hs;omega) (by have:=hs;omega)]
  by_cases e:s.getD i default=t.getD i default
  ·simp only[e,eZ,aj,aE,aC]
  ·have:(s.getD i default != t.getD i default)=true:=by simpa using e
   simp only[this,e,aC,aE,aK]
 ·have:((s.length:Int) != (t.length:Int))=true:=by simp;omega
  rw[ah this];congr 1;symm;rw[bW];rintro rfl;exact hl rfl
theorem lX{s t:gv}(hs:Small s):kG s t=some (s==t):=by
 unfold kG;by_cases hl:s.length=t.length
 ·have:¬((s.length:Int) != (t.length:Int))=true:=by simp;omega
  rw[ak this];refine Kl hs hl (fun i hi=>?_) (by simp[pK]);simp only[pK,show(i:Int)<s.length by omega,show(i:Int)<t.length by omega,aT,aC,show(0:Int)<=i by omega,bK,aq,
   lg (n:=(i:Int)+1) (by have:=hs;omega) (by have:=hs;omega)]
  by_cases e:s.getD i default=t.getD i default
  ·simp only[e,eZ,aj,aE,aC]
  ·have:(s.getD i default != t.getD i default)=true:=by simpa using e
   simp only[this,e,aC,aE,aK]
 ·have:((s.length:Int) != (t.length:Int))=true:=by simp;omega
  rw[ah this];congr 1;symm;rw[bW];rintro rfl;exact hl rfl
theorem kK{l:gv}(hs:Small l):jo l=some l:=by unfold jo;rw[ah (by have:=hs;omega)]
theorem qh{l:gv}(hs:Small l):jq l=some l:=by
 unfold jq;refine(jZ.Qj (t:=True) (P:=(·=l)) ?_ fun h=>?_).eq
 ·rw[ah (by have:=hs;omega)];exact .some rfl
 ·subst h;simp
theorem AL{a t u r:gv}{i:Nat}(h:t.drop i=u++r)(hu:Wf a 1 u):Dj a t i=(t.length:Int)-r.length:=by unfold Dj;rw[h,hu.skip]
theorem zk{t u r:gv}{i:Nat}(h:t.drop i=u++r)(hi:i<=t.length):(t.take (t.length-r.length)).drop i=u:=by
 have hl:=bX List.length h;simp at hl;rw[List.drop_take,h,dh gY,bL gY]
theorem uK{a t u r:gv}(ha:jR a=true)(hs:Small t)(hm:∀x∈t, -24<=x){i:Nat}(h:t.drop i=u++r)(hu:Wf a 1 u):kg a t i=some u:=by
 have hl:=bX List.length h;have hul:=hu.len;simp at hl;have hi:i<=t.length:=by omega
 unfold kg;rw[uF ha hs hm hi,aa,AL h hu,ah gY,show((t.length:Int)-r.length).toNat=t.length-r.length by omega,aq,zk h hi]
theorem yc{a t u r:gv}(ha:jR a=true)(hs:Small t){i:Nat}(h:t.drop i=u++r)(hu:Wf a 1 u):qT a t i=some u:=by
 have hl:=bX List.length h;have hul:=hu.len;simp at hl;have hi:i<=t.length:=by omega
 unfold qT;rw[uL ha hs hi,aa,AL h hu,ah gY,show((t.length:Int)-r.length).toNat=t.length-r.length by omega,aq,zk h hi,
  kK (by show u.length<_;have:=hs;omega)]
 rfl
def LA(o:Option Bd)(r:Bd×Bool):Prop:=match o with|some b=>r=(b,true)|none=>r.2=false
structure SK(a p t:gv)(b0 b:Bd)(i c:Nat):Prop where
 hi:i<=p.length
 hc:c<=t.length
 hb:b.length=24
 B_:∀u∈b,u.length<=60
 k:∃k,Wf a k (p.drop i)/\Wf a k (t.drop c)
 m:xm a (p.drop i) (t.drop c) b=xm a p t b0
theorem SK.var{a p t:gv}{b0 b:Bd}{i c:Nat}(h:SK a p t b0 b i c)(hi:i<p.length)(hn:p[i]<0):∃u r,t.drop c=u++r/\Wf a 1 u/\c+u.length<=t.length/\FL a p[i]/\
 xm a p t b0=(if kB b p[i]=[]then xm a (p.drop (i+1)) (t.drop (c+u.length)) (iy b p[i] u)else if kB b p[i]=u then xm a (p.drop (i+1)) (t.drop (c+u.length)) b else none)/\
 ∃k,Wf a k (p.drop (i+1))/\Wf a k (t.drop (c+u.length)):=by
 obtain⟨k,h1,h2⟩:=h.k;rw[aA hi]at h1;cases k with
 |zero=>have:=h1.zero;cases this
 |succ k=>
  obtain⟨ho,h1⟩:=Wf.jt.1 h1;rw[show k+1=1+k by omega]at h2;obtain⟨u,r,e,hu,hr⟩:=h2.split;have hr':t.drop (c+u.length)=r:=by rw[<-List.drop_drop,e,bS]
  have hl:=bX List.length e;simp at hl;have:=hu.len;refine⟨u,r,e,hu,gY,ho,?_,k,?_,by rw[hr'];exact hr⟩
  ·rw[<-h.m,aA hi,e,FA hn hu,hr']
  ·have ha:lR a p[i]=0:=by simp[lR,hn]
   rwa [ha,dD]at h1
theorem SK.sym{a p t:gv}{b0 b:Bd}{i c:Nat}(h:SK a p t b0 b i c)(hi:i<p.length)(hn:¬p[i]<0):∃hc:c<t.length,FL a p[i]/\xm a p t b0=(if t[c]=p[i]then xm a (p.drop (i+1)) (t.drop (c+1)) b else none)/\
 (t[c]=p[i]->∃k,Wf a k (p.drop (i+1))/\Wf a k (t.drop (c+1))):=by
 obtain⟨k,h1,h2⟩:=h.k;rw[aA hi]at h1;cases k with
 |zero=>have:=h1.zero;cases this
 |succ k=>
  obtain⟨ho,h1⟩:=Wf.jt.1 h1;have hc:c<t.length:=by
   rcases cI c t.length with h|h
   ·exact h
   ·rw[bG h]at h2;have:=h2.len;simp at this
  rw[aA hc]at h2;obtain⟨ho',h2⟩:=Wf.jt.1 h2;refine⟨hc,ho,?_,fun e=>⟨k+lR a p[i],h1,by rw[<-e];exact h2⟩⟩;rw[<-h.m,aA hi,aA hc,CI hn]
theorem SK.SN{a p t:gv}{b0 b:Bd}{i c:Nat}(h:SK a p t b0 b i c)(hi:i<p.length):c<t.length:=by
 obtain⟨k,h1,h2⟩:=h.k;rw[aA hi]at h1;cases k with
 |zero=>have:=h1.zero;cases this
 |succ k=>
  rcases cI c t.length with h|h
  ·exact h
  ·rw[bG h]at h2;have:=h2.len;simp at this
theorem Ag{b:Bd}{n:Int}{u:gv}(hs:∀u∈b,u.length<=60)(hu:u.length<=60):∀v∈iy b n u,v.length<=60:=fun v hv=>by
 rcases List.mem_or_eq_of_mem_set hv with h|h
 ·exact hs v h
 ·subst h;exact hu
theorem Af{b:Bd}{n:Int}(hs:∀u∈b,u.length<=60):(kB b n).length<=60:=by
 unfold kB;rw[ay];cases h:b[(-1-n).toNat]? with
 |none=>simp
 |some u=>exact hs u (bO h)
theorem zH{a p t:gv}{b0:Bd}(ha:jR a=true)(hp:Wf a 1 p)(ht:Wf a 1 t)(hpl:p.length<=60)(htl:t.length<=60)(hb:b0.length=24)(hbs:∀u∈b0,u.length<=60):
 jZ True (oL a p t b0) (fun r=>LA (xm a p t b0) r/\r.1.length=24):=by
 unfold oL;refine jZ.loop (fun s:Int×Int×Bd=>∃i c:Nat,s.1=(c:Int)/\s.2.1=(i:Int)/\SK a p t b0 s.2.2 i c) (fun s:Int×Int×Bd=>p.length-s.2.1.toNat)
  ⟨0,0,rfl,rfl,gY,gY,hb,hbs,⟨1,by simpa using hp,by simpa using ht⟩,by simp⟩ ?_
 rintro⟨_,_,b⟩ ⟨i,c,rfl,rfl,h⟩;simp only at h;have hb:=h.hb;simp only[rm];by_cases hi:i<p.length
 ·have hc:=h.SN hi;simp only[show(i:Int)<p.length by omega,show ¬(t.length:Int)<=c by omega,aT,aU,aC,show(0:Int)<=i by omega,show(0:Int)<=c by omega,show(c:Int)<t.length by omega,bK,
   aj,aE,aq,iG hi,iG hc,lg (n:=(i:Int)+1) gY gY,lg (n:=(c:Int)+1) gY gY]
  by_cases hn:p[i]<0
  ·obtain⟨u,r,e,hu,hl,ho,hm,hk⟩:=h.var hi hn;have hul:=hu.len;have hx: -24<=p[i]:=ho.1;have hlt:(-1-p[i]).toNat<b.length:=by omega
   simp only[show ¬0<=p[i] by omega,aU,aj,aE,uK ha (show Small t by show t.length<_;omega) (fun x hx=>(ht.all x hx).1) e hu,aa,
    lg (n:= -1-p[i]) gY gY,show 0<= -1-p[i] by omega,show -1-p[i]<24 by omega,show -1-p[i]<(b.length:Int) by omega,bK,aC,hb,show((-1:Int)-p[i]<((24:Nat):Int)) by omega,
    lg (n:=(c:Int)+u.length) gY gY]
   have eg:b.getD (-1-p[i]).toNat default=kB b p[i]:=rfl;rw[eg];by_cases h0:kB b p[i]=[]
   ·rw[ah h0]at hm;simp only[h0,fX,aC,show 0<u.length by omega];exact .some ⟨⟨i+1,c+u.length,by simp,by simp,gY,gY,by simpa using hb,Ag h.B_ gY,hk,by rw[hm];rfl⟩,by simp;omega⟩
   ·rw[ak h0]at hm;have:¬(kB b p[i]).isEmpty=true:=by simpa using h0
    simp only[this,aE,ou (show Small (kB b p[i]) by show List.length _<_;have:=Af (n:=p[i]) h.B_;omega),aa];by_cases h1:kB b p[i]=u
    ·rw[ah h1]at hm;simp only[h1,cj,aC];exact .some ⟨⟨i+1,c+u.length,by simp,by simp,gY,gY,hb,h.B_,hk,hm.symm⟩,by simp;omega⟩
    ·rw[ak h1]at hm;have:¬(kB b p[i]==u)=true:=by simpa using h1
     simp only[this,aE,aK];refine .some ?_;simp only[zL,LA,hm];exact⟨trivial,hb⟩
  ·obtain⟨hc',ho,hm,hk⟩:=h.sym hi hn;simp only[show 0<=p[i] by omega,aT,aC];by_cases e:t[c]=p[i]
   ·rw[ah e]at hm;simp only[e,eZ,aj,aE];exact .some ⟨⟨i+1,c+1,by simp,by simp,gY,gY,hb,h.B_,hk e,hm.symm⟩,by simp;omega⟩
   ·rw[ak e]at hm;have:(t[c] != p[i])=true:=by simpa using e
    simp only[this,aC,hb,aK];refine .some ?_;simp only[zL,LA,hm];exact⟨trivial,hb⟩
 ·have hm:=h.m;rw[bG gY,AZ]at hm;simp only[show ¬(i:Int)<p.length by omega,aU,aj,aE,hb,aC,aK];refine .some ?_;simp only[zL,LA,<-hm];exact⟨trivial,hb⟩
def kC(s:Bd)(i:Nat):gv:=if s.getD i []=[]\/s.getD i []=[-1-(i:Int)]then []else s.getD i []
theorem Ma{s o:Bd}(h:∀i,o.getD i []=kC s i){n:Int}(hn:n<0):Tm.sig o n=Tm.sig s n:=by
 unfold Tm.sig kB;rw[h];unfold kC;rw[show -1-((-1-n).toNat:Int)=n by omega];by_cases h1:s.getD (-1-n).toNat []=[]
 ·simp only[h1,true_or,aC]
 ·by_cases h2:s.getD (-1-n).toNat []=[n]
  ·simp only[h2,or_true,aC];simp
  ·simp only[h1,h2,or_self,aE]
theorem yP{s:Bd}{u:gv}{i:Nat}:(s++[u]).getD i []=if i<s.length then s.getD i []else if i=s.length then u else []:=by
 rw[ay];by_cases h:i<s.length
 ·rw[ah h,aZ h,ay]
 ·rw[ak h,bH gY];by_cases h2:i=s.length
  ·subst h2;simp
  ·rw[ak h2,bQ (by simp;omega)];rfl
theorem ux{s:Bd}{i:Nat}(h:s.length<=i):s.getD i []=[]:=by rw[ay,bQ h];rfl
structure PSt(s:Bd)(o:Bd)(i:Nat):Prop where
 hi:i<=s.length
 hl:o.length<=i
 he:∀j<i,o.getD j []=kC s j
theorem Cn{s:Bd}(hl:s.length<=24)(hs:∀u∈s,u.length<=60):jZ True (sN s) fun o=>o.length<=24/\∀i,o.getD i []=kC s i:=by
 unfold sN;refine jZ.loop (fun q:Int×Bd=>∃i:Nat,q.1=i/\PSt s q.2 i) (fun q:Int×Bd=>s.length-q.1.toNat) ⟨0,rfl,gY,by simp,gY⟩ ?_;rintro⟨_,o⟩ ⟨i,rfl,h⟩;simp only at h;simp only[uI];by_cases hi:i<s.length
 ·have hu:=hs _ (bC hi);have hg:s.getD i []=s[i]:=iG hi;simp only[show(i:Int)<s.length by omega,aT,aC,show(0:Int)<=i by omega,bK,aq,iG hi,lg (n:=(i:Int)+1) gY gY];have skip:kC s i=[]->jZ True (some (Sum.inl ((i:Int)+1,o)):Option ((Int×Bd)⊕Bd)) (zL (fun q:Int×Bd=>∃i:Nat,q.1=i/\PSt s q.2 i) (fun q:Int×Bd=>s.length-q.1.toNat) (fun o=>o.length<=24/\∀i,o.getD i []=kC s i) (s.length-i)):=fun hp=>
   .some ⟨⟨i+1,by simp,gY,Nat.le_succ_of_le h.hl,fun j hj=>by
    rcases cI j i with h3|h3
    ·exact h.he j h3
    ·obtain rfl:j=i:=by omega
     rw[hp,ux h.hl]⟩,by simp;omega⟩
  by_cases h0:s[i]=[]
  ·simp only[h0,bN,ga,cj,aC];exact skip (by unfold kC;rw[hg,ah (.inl h0)])
  ·have hne:¬(((s[i]).length:Int)==0)=true:=by
    have:=cq.2 h0;simp only[bw];omega
   simp only[hne,aE,rU,aa,lg (n:= -1-(i:Int)) gY gY,ou (show Small s[i] by show List.length _<_;omega)];by_cases h1:s[i]=[-1-(i:Int)]
   ·simp only[h1,cj,aC];exact skip (by unfold kC;rw[hg,ah (.inr h1)])
   ·have:¬(s[i]==[-1-(i:Int)])=true:=by simpa using h1
    simp only[this,aE];have hp:kC s i=s[i]:=by unfold kC;rw[hg,ak (by simp[h0,h1])]
    refine jZ.loop (fun o':Bd=>o'.length<=i/\∀j<i,o'.getD j []=kC s j) (fun o':Bd=>i-o'.length) ⟨h.hl,h.he⟩ ?_;rintro o' ⟨h3,h4⟩;simp only[uJ];by_cases h5:o'.length<i
    ·simp only[show(o'.length:Int)<i by omega,aT,aC,show(o'.length+1)*24<=140737488355328 by omega];refine .some ⟨⟨by simp;omega,fun j hj=>?_⟩,by simp;omega⟩;rw[yP];split
     ·exact h4 j hj
     ·have:=h4 j hj;rw[ux gY]at this;simp[<-this]
    ·simp only[show ¬(o'.length:Int)<i by omega,aU,aj,aE,show(o'.length+1)*24<=140737488355328 by omega,aC];rw[aq,iG hi,qh (show Small s[i] by show List.length _<_;omega),aa,aK];refine .some ?_;refine⟨⟨i+1,by simp[lg (n:=(i:Int)+1) gY gY],gY,by simp;omega,fun j hj=>?_⟩,by simp[lg (n:=(i:Int)+1) gY gY];omega⟩;rw[yP];split
     ·exact h4 j gY
     ·obtain rfl:j=i:=by omega
      rw[ah gY,hp]
 ·simp only[show ¬(i:Int)<s.length by omega,aU,aj,aE,aK];refine .some ⟨by have:=h.hl;have:=h.hi;omega,fun j=>?_⟩;by_cases hj:j<i
  ·exact h.he j hj
  ·rw[ux (by have:=h.hl;omega)];unfold kC;rw[ux (s:=s) gY];simp
def tc(o:Option Bd)(r:Bd×Bool):Prop:=match o with
 |some b=>r.2=true/\r.1.length<=24/\∀i,r.1.getD i []=kC b i
 |none=>r.2=false
theorem vk{a:gv}:∀{p t:gv}{b b':Bd},xm a p t b=some b'->(∀u∈b,u.length<=60)->t.length<=60->b.length=24->b'.length=24/\∀u∈b',u.length<=60
 |[],t,b,b',h,hs,_,hb=>by rw[AZ]at h;cases h;exact⟨hb,hs⟩
 |n::p,t,b,b',h,hs,ht,hb=>by
  unfold xm at h;split at h
  ·split at h
   ·cases h
   ·rename_i r hr;have:=Pc hr;simp only at h;split at h
    ·exact vk (b:=Tm.iy b n _) h (Ag hs (by simp;omega)) gY (by simpa[Tm.iy]using hb)
    ·split at h
     ·exact vk h hs gY hb
     ·cases h
  ·split at h
   ·cases h
   ·split at h
    ·exact vk h hs (by simp at ht;omega) hb
    ·cases h
theorem uG{a p t:gv}(ha:jR a=true)(hp:Wf a 1 p)(ht:Wf a 1 t)(hpl:p.length<=60)(htl:t.length<=60):jZ True (qK a p t) (tc (xm a p t kf)):=by
 unfold qK;have hn:∀u∈kf,u.length<=60:=by intro u hu;simp[kf]at hu;subst hu;simp
 obtain⟨r,h1,h2,h3⟩:=(zH ha hp ht hpl htl (b0:=kf) (by simp[kf]) hn).get;rw[show(List.replicate 24 []:Bd)=kf from rfl,h1,aa,ah h3];cases hm:xm a p t kf with
 |none=>
  rw[hm]at h2;simp only[LA]at h2;simp only[h2,aj,aE];exact .some rfl
 |some b=>
  rw[hm]at h2;simp only[LA]at h2;subst h2;obtain⟨h4,h5⟩:=vk hm hn htl (by simp[kf]);simp only[aC,h4,nM,aa];refine jZ.bind (Cn gY h5) fun o ho=>.some ⟨rfl,ho.1,ho.2⟩
theorem vV{s:Bd}(hs:∀u∈s,u.length<=60)(hl:s.length<=24){i:Nat}(hi:i<=24):oX s i=some (if s.getD i []=[]then [-1-(i:Int)]else s.getD i []):=by
 unfold oX;rw[lg (n:= -1-(i:Int)) gY gY];by_cases h:i<s.length
 ·have hu:=hs _ (bC h);have hg:s.getD i []=s[i]:=iG h;simp only[show(i:Int)<s.length by omega,aT,aC,show(0:Int)<=i by omega,bK,aq,iG h,hg];by_cases h0:s[i]=[]
  ·simp[h0]
  ·have:=cq.2 h0;simp only[h0,aE,show(0:Int)<s[i].length by omega,aT,aC,kK (show Small s[i] by show List.length _<_;omega),aa]
 ·simp only[show ¬(i:Int)<s.length by omega,aU,aj,aE,ux (s:=s) (i:=i) gY,aC]
theorem Ay{s:Bd}(hl:s.length<=24)(hs:∀u∈s,u.length<=60):jZ True (qA s) fun o=>o.length<=24/\∀i,o.getD i []=kC s i:=by
 unfold qA;refine jZ.loop (fun q:Int×Bd=>∃i:Nat,q.1=i/\i<=s.length/\q.2.length=i/\∀j<i,q.2.getD j []=kC s j) (fun q:Int×Bd=>s.length-q.1.toNat) ⟨0,rfl,gY,rfl,gY⟩ ?_;rintro⟨_,o⟩ ⟨i,rfl,h1,h2,h3⟩;simp only at h2 h3;simp only[sV];by_cases hi:i<s.length
 ·have hw:IntKind.i64.wrap ((i:Int)+1)=i+1:=lg gY gY;have hw2:IntKind.i64.wrap (-1-(i:Int))= -1-i:=lg gY gY;have hm:(o.length+1)*24<=140737488355328:=by omega
  have hg:s.getD i []=s[i]:=iG hi;have step:∀u:gv,kC s i=u->jZ True (some (Sum.inl ((i:Int)+1,o++[u])):Option ((Int×Bd)⊕Bd)) (zL (fun q:Int×Bd=>∃i:Nat,q.1=i/\i<=s.length/\q.2.length=i/\∀j<i,q.2.getD j []=kC s j) (fun q:Int×Bd=>s.length-q.1.toNat) (fun o=>o.length<=24/\∀i,o.getD i []=kC s i) (s.length-i)):=fun u hu=>
   .some ⟨⟨i+1,by simp,gY,by simp[h2],fun j hj=>by
    rw[yP];split
    ·exact h3 j gY
    ·rw[ah gY,show j=i by omega,hu]⟩,by simp;omega⟩
  simp only[show(i:Int)<s.length by omega,aT,aC,vV hs hl (i:=i) gY,aa,hm,hw,hw2];by_cases h0:s[i]=[]
  ·simp only[hg,h0,aC,aL,Int.natCast_one,cj,ek,show(0:Int)<1 by omega,bK,List.getD_cons_zero];exact step [] (by unfold kC;rw[hg,ah (.inl h0)])
  ·simp only[hg,h0,aE];by_cases hlen:s[i].length=1
   ·obtain⟨x,hx⟩:=List.length_eq_one_iff.1 hlen;simp only[hx,aL,Int.natCast_one,cj,aC,ek,show(0:Int)<1 by omega,bK,List.getD_cons_zero];by_cases e:x= -1-(i:Int)
    ·simp only[e,cj,aC];exact step [] (by unfold kC;rw[hg,ah (.inr (by rw[hx,e]))])
    ·have:¬(x== -1-(i:Int))=true:=by simpa using e
     simp only[this,aE];exact step [x] (by unfold kC;rw[hg,hx,ak (by simp[e])])
   ·have:¬((s[i].length:Int)==1)=true:=by simp only[bw];omega
    simp only[this,aE];refine step s[i] ?_;unfold kC;rw[hg,ak];rintro(h|h)
    ·exact h0 h
    ·exact hlen (by rw[h];rfl)
 ·simp only[show ¬(i:Int)<s.length by omega,aU,aj,aE];have hall:∀j,o.getD j []=kC s j:=fun j=>by
   by_cases hj:j<i
   ·exact h3 j hj
   ·rw[ux gY];unfold kC;rw[ux (s:=s) gY];simp
  refine jZ.inr ?_;simp only[zL];refine jZ.loop (fun o':Bd=>o'.length<=24/\∀j,o'.getD j []=kC s j) (fun o':Bd=>o'.length) ⟨gY,hall⟩ ?_;rintro o' ⟨h4,h5⟩;simp only[sW];by_cases h6:0<o'.length
  ·have hw:IntKind.i64.wrap ((o'.length:Int)-1)=o'.length-1:=lg gY gY;have ht:((o'.length:Int)-1).toNat=o'.length-1:=by omega
   have hlt:o'.length-1<o'.length:=by omega
   simp only[show(0:Int)<o'.length by omega,aT,aC,hw,show 0<=(o'.length:Int)-1 by omega,show(o'.length:Int)-1<o'.length by omega,show(o'.length:Int)-1<=o'.length by omega,bK,ht,iG hlt];by_cases h7:o'[o'.length-1]=[]
   ·simp only[h7,bN,ga,cj,aC];refine .some ⟨⟨by simp;omega,fun j=>?_⟩,by simp;omega⟩;rw[<-h5 j,ay,ay,cu];split
    ·rfl
    ·by_cases hj:j=o'.length-1
     ·subst hj;rw[aB hlt,h7];rfl
     ·rw[bQ gY]
   ·have:=cq.2 h7;have:¬((o'[o'.length-1].length:Int)==0)=true:=by simp only[bw];omega
    simp only[this,aE,aK];exact .some ⟨h4,h5⟩
  ·simp only[show ¬(0:Int)<o'.length by omega,aU,aj,aE,aK];exact .some ⟨h4,h5⟩
theorem Az{a p t:gv}(ha:jR a=true)(hp:Wf a 1 p)(ht:Wf a 1 t)(hpl:p.length<=60)(htl:t.length<=60):jZ True (qB a p t) (tc (xm a p t kf)):=by
 have hn:∀u∈kf,u.length<=60:=by intro u hu;simp[kf]at hu;subst hu;simp
 unfold qB;rw[show(List.replicate 24 []:Bd)=kf from rfl];refine jZ.loop (fun s:Int×Int×Bd=>∃i c:Nat,s.1=(c:Int)/\s.2.1=(i:Int)/\SK a p t kf s.2.2 i c) (fun s:Int×Int×Bd=>p.length-s.2.1.toNat)
  ⟨0,0,rfl,rfl,gY,gY,by simp[kf],hn,⟨1,by simpa using hp,by simpa using ht⟩,by simp⟩ ?_
 rintro⟨_,_,b⟩ ⟨i,c,rfl,rfl,h⟩;simp only at h;have hb:=h.hb;simp only[sY];by_cases hi:i<p.length
 ·have hc:=h.SN hi;simp only[show(i:Int)<p.length by omega,show ¬(t.length:Int)<=c by omega,aT,aU,aC,show(0:Int)<=i by omega,show(0:Int)<=c by omega,show(c:Int)<t.length by omega,bK,
   aj,aE,aq,iG hi,iG hc,lg (n:=(i:Int)+1) gY gY,lg (n:=(c:Int)+1) gY gY]
  by_cases hn:p[i]<0
  ·obtain⟨u,r,e,hu,hl,ho,hm,hk⟩:=h.var hi hn;have hul:=hu.len;have hx: -24<=p[i]:=ho.1;have hlt:(-1-p[i]).toNat<b.length:=by omega
   simp only[show ¬0<=p[i] by omega,aU,aj,aE,yc ha (show Small t by show t.length<_;omega) e hu,aa,
    lg (n:= -1-p[i]) gY gY,show 0<= -1-p[i] by omega,show -1-p[i]<24 by omega,bK,aC,hb,show((-1:Int)-p[i]<((24:Nat):Int)) by omega,
    lg (n:=(c:Int)+u.length) gY gY]
   have eg:b.getD (-1-p[i]).toNat default=kB b p[i]:=rfl;rw[eg];by_cases h0:kB b p[i]=[]
   ·rw[ah h0]at hm;simp only[h0,bN,ga,Int.lt_irrefl,aU,aj,aE];exact .some ⟨⟨i+1,c+u.length,by simp,by simp,gY,gY,by simpa using hb,Ag h.B_ gY,hk,by rw[hm];rfl⟩,by simp;omega⟩
   ·rw[ak h0]at hm;have hp0:=cq.2 h0;simp only[show(0:Int)<((kB b p[i]).length:Int) by omega,aT,aC,lX (show Small (kB b p[i]) by show List.length _<_;have:=Af (n:=p[i]) h.B_;omega),aa];by_cases h1:kB b p[i]=u
    ·rw[ah h1]at hm;simp only[h1,cj,aC];have hset:b.set (-1-p[i]).toNat u=b:=by
      have:b[(-1-p[i]).toNat]=u:=by rw[<-h1];exact(iG hlt).symm
      rw[<-this];exact List.set_getElem_self hlt
     rw[hset];exact .some ⟨⟨i+1,c+u.length,by simp,by simp,gY,gY,hb,h.B_,hk,hm.symm⟩,by simp;omega⟩
    ·rw[ak h1]at hm;have:¬(kB b p[i]==u)=true:=by simpa using h1
     simp only[this,aE,aK];refine .some ?_;simp only[zL,tc,hm]
  ·obtain⟨hc',ho,hm,hk⟩:=h.sym hi hn;simp only[show 0<=p[i] by omega,aT,aC];by_cases e:t[c]=p[i]
   ·rw[ah e]at hm;simp only[e,eZ,aj,aE];exact .some ⟨⟨i+1,c+1,by simp,by simp,gY,gY,hb,h.B_,hk e,hm.symm⟩,by simp;omega⟩
   ·rw[ak e]at hm;have:(p[i] != t[c])=true:=by simpa using fun h=>e h.symm
    simp only[this,aC,aK];refine .some ?_;simp only[zL,tc,hm]
 ·have hm:=h.m;rw[bG gY,AZ]at hm;simp only[show ¬(i:Int)<p.length by omega,aU,aj,aE,hb,aC];refine jZ.inr ?_;refine jZ.bind (Ay gY h.B_) fun o ho=>.some ?_
  simp only[zL,tc,<-hm];exact⟨trivial,ho.1,ho.2⟩
theorem D1{σ:Int->gv}{t:gv}{i:Nat}(hi:i<t.length):sub σ (t.take (i+1))=sub σ (t.take i)++(if t[i]<0 then σ t[i]else [t[i]]):=by
 rw[ey,aB hi,jK];simp[sub]
theorem zj{σ:Int->gv}{t:gv}{i:Nat}:(sub σ (t.take i)).length<=(sub σ t).length:=by
 have:sub σ t=sub σ (t.take i)++sub σ (t.drop i):=by rw[<-jK,cx]
 rw[this];simp
def tq(σ:Int->gv)(t:gv):Option gv:=if(sub σ t).length<=60 then some (sub σ t)else none
def nS(o:Option gv):gv×Bool:=match o with|some x=>(x,true)|none=>([],false)
theorem Cm{s:Bd}(hl:s.length<=24){i:Nat}(hi:i<=24):nu s i=some (s.getD i []):=by
 unfold nu;by_cases h:i<s.length
 ·have hg:s.getD i []=s[i]:=iG h;simp only[show ¬(s.length:Int)<=i by omega,aU,aj,aE,show(0:Int)<=i by omega,show(i:Int)<s.length by omega,bK,aC,aq,iG h,hg];by_cases h0:s[i]=[]
  ·simp[h0]
  ·have:=cq.2 h0;have h2:¬((s[i].length:Int)==0)=true:=by simp only[bw];omega
   simp only[h2,aj,aE,this,aC]
 ·simp only[show(s.length:Int)<=i by omega,aT,aC,ux (s:=s) (i:=i) gY]
theorem EG{σ:Int->gv}{t:gv}{i:Nat}(hi:i<t.length){out u:gv}(ho:out=sub σ (t.take i))(hu:u=if t[i]<0 then σ t[i]else [t[i]]):
 (60<(out++u).length->tq σ t=none)/\out++u=sub σ (t.take (i+1)):=by
 have e:out++u=sub σ (t.take (i+1)):=by rw[D1 hi,ho,hu]
 refine⟨fun h=>?_,e⟩;rw[e]at h;unfold tq;rw[ak];have:=zj (σ:=σ) (t:=t) (i:=i+1);omega
theorem CV{s:Bd}{t:gv}(hl:s.length<=24)(hs:∀i,(s.getD i []).length<=60)(ht:t.length<=60)(hx:∀x∈t, -24<=x):sx s t=some (nS (tq (Tm.sig s) t)):=by
 have key:jZ True (sx s t) (·=nS (tq (Tm.sig s) t)):=by
  unfold sx;simp only[oJ,aa,show 0<=(t.length:Int)/\8*(t.length:Int)<=281474976710656 by omega,bK,aC];refine jZ.loop (fun q:gv×Int=>∃i:Nat,q.2=i/\i<=t.length/\q.1=sub (Tm.sig s) (t.take i)/\q.1.length<=60) (fun q:gv×Int=>t.length-q.2.toNat) ⟨0,rfl,gY,by simp[sub],by simp⟩ ?_;rintro⟨out,_⟩ ⟨i,rfl,h1,h2,h3⟩;simp only at h2 h3;simp only[vt];by_cases hi:i<t.length
  ·have hxi:=hx _ (bC hi);simp only[show(i:Int)<t.length by omega,aT,aC,show(0:Int)<=i by omega,bK,aq,iG hi,lg (n:=(i:Int)+1) gY gY];have fin:∀u:gv,u.length<=60->u=(if t[i]<0 then Tm.sig s t[i]else [t[i]])->jZ True (if decide (60<((out++u).length:Int))=true then Option.map Sum.inr (some (([]:gv),false))else some (Sum.inl (out++u,(i:Int)+1)))
    (zL (fun q:gv×Int=>∃i:Nat,q.2=i/\i<=t.length/\q.1=sub (Tm.sig s) (t.take i)/\q.1.length<=60) (fun q:gv×Int=>t.length-q.2.toNat) (·=nS (tq (Tm.sig s) t)) (t.length-i)):=fun u hu e=>by
    obtain⟨h4,h5⟩:=EG hi h2 e;by_cases h6:60<(out++u).length
    ·simp only[show(60:Int)<((out++u).length:Int) by omega,aT,aC,aK];refine .some ?_;simp only[zL,h4 h6,nS]
    ·simp only[show ¬(60:Int)<((out++u).length:Int) by omega,aU,aj,aE];exact .some ⟨⟨i+1,by simp,gY,h5,by simp only;omega⟩,by simp;omega⟩
   unfold nL;by_cases hn:t[i]<0
   ·have hi24:((-1-t[i]).toNat:Int)= -1-t[i]:=by omega
    simp only[show ¬0<=t[i] by omega,aU,aj,aE,lg (n:= -1-t[i]) gY gY];rw[<-hi24,Cm hl gY,aa,aa];have hb:s.getD (-1-t[i]).toNat []=kB s t[i]:=rfl;rw[hb];have hbl:(kB s t[i]).length<=60:=hs _;by_cases h0:kB s t[i]=[]
    ·simp only[h0,fX,aC,show(out.length+1)*8<=140737488355328 by omega];exact fin [t[i]] (by simp) (by rw[ah hn];unfold Tm.sig;rw[ah h0])
    ·have:¬(kB s t[i]).isEmpty=true:=by simpa using h0
     simp only[this,aE,show(out.length+(kB s t[i]).length)*8<=140737488355328 by omega,aC];exact fin (kB s t[i]) hbl (by rw[ah hn];unfold Tm.sig;rw[ak h0])
   ·simp only[show 0<=t[i] by omega,aT,aC,aa,fX,show(out.length+1)*8<=140737488355328 by omega];exact fin [t[i]] (by simp) (by rw[ak hn])
  ·simp only[show ¬(i:Int)<t.length by omega,aU,aj,aE,aK];refine .some ?_;rw[bL gY]at h2;simp only[zL,tq,<-h2,h3,aC,nS]
 exact key.eq
theorem Ac{s:Bd}{t:gv}(hl:s.length<=24)(hs:∀u∈s,u.length<=60)(ht:t.length<=60)(hx:∀x∈t, -24<=x):oc s t=some (nS (tq (Tm.sig s) t)):=by
 have key:jZ True (oc s t) (·=nS (tq (Tm.sig s) t)):=by
  unfold oc;refine jZ.loop (fun q:gv×Int=>∃i:Nat,q.2=i/\i<=t.length/\q.1=sub (Tm.sig s) (t.take i)/\q.1.length<=60) (fun q:gv×Int=>t.length-q.2.toNat) ⟨0,rfl,gY,by simp[sub],by simp⟩ ?_;rintro⟨out,_⟩ ⟨i,rfl,h1,h2,h3⟩;simp only at h2 h3;simp only[si];by_cases hi:i<t.length
  ·have hxi:=hx _ (bC hi);simp only[show(i:Int)<t.length by omega,aT,aC,show(0:Int)<=i by omega,bK,aq,iG hi,lg (n:=(i:Int)+1) gY gY];have fin:∀u:gv,u.length<=60->u=(if t[i]<0 then Tm.sig s t[i]else [t[i]])->jZ True (if decide (60<((out++u).length:Int))=true then Option.map Sum.inr (some (([]:gv),false))else some (Sum.inl (out++u,(i:Int)+1)))
    (zL (fun q:gv×Int=>∃i:Nat,q.2=i/\i<=t.length/\q.1=sub (Tm.sig s) (t.take i)/\q.1.length<=60) (fun q:gv×Int=>t.length-q.2.toNat) (·=nS (tq (Tm.sig s) t)) (t.length-i)):=fun u hu e=>by
    obtain⟨h4,h5⟩:=EG hi h2 e;by_cases h6:60<(out++u).length
    ·simp only[show(60:Int)<((out++u).length:Int) by omega,aT,aC,aK];refine .some ?_;simp only[zL,h4 h6,nS]
    ·simp only[show ¬(60:Int)<((out++u).length:Int) by omega,aU,aj,aE];exact .some ⟨⟨i+1,by simp,gY,h5,by simp only;omega⟩,by simp;omega⟩
   by_cases hn:t[i]<0
   ·have hi24:((-1-t[i]).toNat:Int)= -1-t[i]:=by omega
    simp only[hn,aT,aC,lg (n:= -1-t[i]) gY gY];rw[<-hi24,vV hs hl gY,aa,hi24];have hb:s.getD (-1-t[i]).toNat []=kB s t[i]:=rfl;rw[hb];have hbl:(kB s t[i]).length<=60:=Af hs;by_cases h0:kB s t[i]=[]
    ·simp only[h0,aC,aL,show(out.length+1)*8<=140737488355328 by omega,show -1-(-1-t[i])=t[i] by omega];exact fin [t[i]] (by simp) (by rw[ah hn];unfold Tm.sig;rw[ah h0])
    ·simp only[h0,aE,show(out.length+(kB s t[i]).length)*8<=140737488355328 by omega,aC];exact fin (kB s t[i]) hbl (by rw[ah hn];unfold Tm.sig;rw[ak h0])
   ·simp only[hn,aU,aj,aE,show(out.length+1)*8<=140737488355328 by omega,aC];exact fin [t[i]] (by simp) (by rw[ak hn])
  ·simp only[show ¬(i:Int)<t.length by omega,aU,aj,aE,aK];refine .some ?_;rw[bL gY]at h2;simp only[zL,tq,<-h2,h3,aC,nS]
 exact key.eq
theorem vz{xs:List gv}(hl:xs.length<=3)(hs:∀u∈xs,u.length<=60):jI xs=some xs.flatten:=by
 have hfl:∀i,i<=xs.length->(xs.take i).flatten.length<=60*i:=fun i=>by
  induction i with
  |zero=>simp
  |succ i ih=>
   intro hi;have h1:i<xs.length:=by omega
   rw[ey,aB h1,dI,ai];have:=ih gY;have:=hs _ (bC h1);simp only[Option.toList_some,ck,fZ,aW];omega
 have tk:∀i (h1:i<xs.length),(xs.take (i+1)).flatten=(xs.take i).flatten++xs[i]:=fun i h1=>by rw[ey,aB h1,dI];simp
 have key:jZ True (jI xs) (·=xs.flatten):=by
  unfold jI;refine jZ.loop (fun q:Int×Int=>∃i:Nat,q.2=i/\i<=xs.length/\q.1=((xs.take i).flatten.length:Int)) (fun q:Int×Int=>xs.length-q.2.toNat) ⟨0,rfl,gY,by simp⟩ ?_;rintro⟨_,_⟩ ⟨i,rfl,h1,rfl⟩;simp only[lV];have hb:=hfl i h1;by_cases hi:i<xs.length
  ·have hu:=hs _ (bC hi);simp only[show(i:Int)<xs.length by omega,aT,aC,show(0:Int)<=i by omega,bK,aq,iG hi,lg (n:=(i:Int)+1) gY gY,
    lg (n:=((xs.take i).flatten.length:Int)+(xs[i].length:Int)) gY gY,show ¬((xs.take i).flatten.length:Int)+(xs[i].length:Int)<0 by omega,aU,aj,aE]
   exact .some ⟨⟨i+1,by simp,gY,by rw[tk i hi];simp⟩,by simp;omega⟩
  ·simp only[show ¬(i:Int)<xs.length by omega,aU,aj,aE,nR,show 0<=((xs.take i).flatten.length:Int)/\((xs.take i).flatten.length:Int)*8<=140737488355328 by omega,bK,aC,aa];refine jZ.inr ?_;simp only[zL];refine jZ.loop (fun q:gv×Int=>∃i:Nat,q.2=i/\i<=xs.length/\q.1=(xs.take i).flatten) (fun q:gv×Int=>xs.length-q.2.toNat) ⟨0,rfl,gY,by simp⟩ ?_;rintro⟨_,_⟩ ⟨j,rfl,h2,rfl⟩;simp only[lW];have hb:=hfl j h2;by_cases hj:j<xs.length
   ·have hu:=hs _ (bC hj);simp only[show(j:Int)<xs.length by omega,aT,aC,show(0:Int)<=j by omega,bK,aq,iG hj,lg (n:=(j:Int)+1) gY gY,
     show((xs.take j).flatten.length+xs[j].length)*8<=140737488355328 by omega]
    exact .some ⟨⟨j+1,by simp,gY,by rw[tk j hj]⟩,by simp;omega⟩
   ·simp only[show ¬(j:Int)<xs.length by omega,aU,aj,aE,aK];refine .some ?_;simp only[zL];rw[bL gY]
 exact key.eq
def Mc(a t:gv)(i:Nat)(v:gv):Option gv:=if(Hr a t i v).length<=60 then some (Hr a t i v)else none
theorem Ec{a p u s v:gv}(ha:jR a=true)(hu:Wf a 1 u)(hm:∀x∈p++(u++s), -24<=x)(hl:(p++(u++s)).length<=60)(hv:v.length<=60):
 qv a (p++(u++s)) (p.length:Int) v=some (nS (Mc a (p++(u++s)) p.length v)):=by
 have hd:(p++(u++s)).drop p.length=u++s:=bS;have hl':=hl;simp only[ai]at hl';unfold qv;rw[ah (by simp only[ai];omega),uF ha (by show List.length _<_;omega) hm (by simp),aa,AL hd hu];have e1:((p++(u++s)).length:Int)-s.length=((p.length+u.length:Nat):Int):=by simp;omega
 rw[e1,ah (by simp;omega),aq,aq,dK,<-List.drop_drop,hd,bS];rw[vz (by simp) (by intro w hw;simp at hw;rcases hw with rfl|rfl|rfl<;>omega),aa];unfold Mc;rw[zE hu];have e2:[p,v,s].flatten=p++(v++s):=by simp
 rw[e2];by_cases h:(p++(v++s)).length<=60
 ·simp only[show ¬(60:Int)<((p++(v++s)).length:Int) by omega,aU,aj,aE,h,aC,nS]
 ·simp only[show(60:Int)<((p++(v++s)).length:Int) by omega,aT,aC,h,aE,nS]
theorem Cp{a p u s v:gv}(ha:jR a=true)(hu:Wf a 1 u)(hl:(p++(u++s)).length<=60)(hv:v.length<=60):
 sX a (p++(u++s)) (p.length:Int) v=some (nS (Mc a (p++(u++s)) p.length v)):=by
 have hd:(p++(u++s)).drop p.length=u++s:=bS;have hl':=hl;simp only[ai]at hl';unfold sX;rw[ah (by simp only[ai];omega),aq,dK,kK (by show List.length _<_;omega),aa,ah gY,uL ha (by show List.length _<_;omega) (by simp),aa,AL hd hu];have e1:((p++(u++s)).length:Int)-s.length=((p.length+u.length:Nat):Int):=by simp;omega
 rw[e1,ah (by simp;omega),aq,<-List.drop_drop,hd,bS,ah (by simp;omega),aG];unfold Mc;rw[zE hu];by_cases h:(p++(v++s)).length<=60
 ·simp only[show ¬(60:Int)<((p++(v++s)).length:Int) by omega,aU,aj,aE,h,aC,nS]
 ·simp only[show(60:Int)<((p++(v++s)).length:Int) by omega,aT,aC,h,aE,nS]
abbrev Sys:=gv×List gz
theorem mg{s:Sys}:jN s=true<->jR s.1=true/\s.2.length<=12/\∀r∈s.2,wK s.1 r=true:=by simp[jN]
theorem lF{a:gv}{r:gv×gv}:wK a r=true<->iV a r.1=true/\iV a r.2=true/\0<=r.1.headD 0/\∀x∈r.2,x<0->x∈r.1:=by simp only[wK,K4,bu,av,cy]
def ri(s:Sys)(t:gv)(i rule:Nat):Option gv:=Cg s.1 (s.2.getD rule default).1 (s.2.getD rule default).2 t i
theorem Cc{b o:Bd}(hb:∀u∈b,u.length<=60)(h:∀i,o.getD i []=kC b i):(∀i,(o.getD i []).length<=60)/\∀u∈o,u.length<=60:=by
 have h1:∀i,(o.getD i []).length<=60:=fun i=>by
  rw[h];unfold kC;split
  ·simp
  ·rw[ay];cases hx:b[i]? with
   |none=>simp
   |some u=>exact hb u (bO hx)
 refine⟨h1,fun u hu=>?_⟩;obtain⟨i,hi,rfl⟩:=List.getElem_of_mem hu;have:=h1 i;rwa [show o.getD i []=o[i]from iG hi]at this
theorem Dm{b o:Bd}(h:∀i,o.getD i []=kC b i)(t:gv):tq (Tm.sig o) t=tq (Tm.sig b) t:=by
 unfold tq;rw[sub_congr fun x _ hx=>Ma h hx]
theorem HI{a l r p u s:gv}(hu:Wf a 1 u):Cg a l r (p++(u++s)) p.length=(xm a l u kf).bind fun b=>(tq (Tm.sig b) r).bind fun v=>Mc a (p++(u++s)) p.length v:=by
 unfold Cg;rw[yC hu];congr 1;funext b;unfold tq Mc;by_cases h1:(sub (Tm.sig b) r).length<=60
 ·rw[ah h1,aa];by_cases h2:(Hr a (p++(u++s)) p.length (sub (Tm.sig b) r)).length<=60
  ·rw[ah ⟨h1,h2⟩,ah h2]
  ·rw[ak (fun h=>h2 h.2),ak h2]
 ·rw[ak (fun h=>h1 h.1),ak h1];rfl
theorem yw{s:Sys}{t:gv}{i rule:Nat}(hs:jN s=true)(ht:iV s.1 t=true)(hi:i<t.length)(hr:rule<s.2.length):sy s t i rule=some (nS (ri s t i rule)):=by
 obtain⟨ha,_,hrs⟩:=mg.1 hs;obtain⟨_,h1,h2,hw⟩:=iB.1 ht;obtain⟨p,u,q,rfl,rfl,hu⟩:=hw.place hi;have hrule:=lF.1 (hrs _ (jM hr));obtain⟨hL,hR,_,hv⟩:=hrule;obtain⟨_,hL1,hL2,hL3⟩:=iB.1 hL;obtain⟨_,hR1,hR2,hR3⟩:=iB.1 hR;have hm:∀x∈p++(u++q), -24<=x:=fun x hx=>(hw.all x hx).1
 have hul:u.length<=60:=by simp at h2;omega
 unfold sy ri;rw[ah gY,uK ha (by show List.length _<_;omega) hm bS hu,aa,aq];obtain⟨o,e1,e2⟩:=(uG ha hL3 hu hL2 hul).get;rw[e1,aa,HI hu];cases hmat:xm s.1 (s.2.getD rule default).1 u kf with
 |none=>
  rw[hmat]at e2;simp only[tc]at e2;simp only[e2,aj,aE,fU,nS]
 |some b=>
  rw[hmat]at e2;obtain⟨e3,e4,e5⟩:=e2;obtain⟨hb1,hb2⟩:=vk hmat (by intro u hu;simp[kf]at hu;subst hu;simp) hul (by simp[kf]);obtain⟨hp1,hp2⟩:=Cc hb2 e5;rw[ah e3,ah gY,CV e4 hp1 hR2 (fun x hx=>(hR3.all x hx).1),aa,aa,Dm e5];cases hf:tq (Tm.sig b) (s.2.getD rule default).2 with
  |none=>simp[nS]
  |some v=>
   have hv60:v.length<=60:=by
    unfold tq at hf;split at hf
    ·rename_i h;cases hf;exact h
    ·cases hf
   simp only[nS,aC,aa];rw[Ec ha hu hm h2 hv60];rfl
theorem wW{s:Sys}{t:gv}{i rule:Nat}(hs:jN s=true)(ht:iV s.1 t=true)(hi:i<t.length)(hr:rule<s.2.length):pZ s t i rule=some (nS (ri s t i rule)):=by
 obtain⟨ha,_,hrs⟩:=mg.1 hs;obtain⟨_,h1,h2,hw⟩:=iB.1 ht;obtain⟨p,u,q,rfl,rfl,hu⟩:=hw.place hi;have hrule:=lF.1 (hrs _ (jM hr));obtain⟨hL,hR,_,hv⟩:=hrule;obtain⟨_,hL1,hL2,hL3⟩:=iB.1 hL;obtain⟨_,hR1,hR2,hR3⟩:=iB.1 hR;have hul:u.length<=60:=by simp at h2;omega
 unfold pZ ri;rw[ah gY,yc ha (by show List.length _<_;omega) bS hu,aa,aq];obtain⟨o,e1,e2⟩:=(Az ha hL3 hu hL2 hul).get;rw[e1,aa,HI hu];cases hmat:xm s.1 (s.2.getD rule default).1 u kf with
 |none=>
  rw[hmat]at e2;simp only[tc]at e2;simp only[e2,aj,aE,fU,nS]
 |some b=>
  rw[hmat]at e2;obtain⟨e3,e4,e5⟩:=e2;obtain⟨hb1,hb2⟩:=vk hmat (by intro u hu;simp[kf]at hu;subst hu;simp) hul (by simp[kf]);obtain⟨hp1,hp2⟩:=Cc hb2 e5;rw[ah e3,Ac e4 hp2 hR2 (fun x hx=>(hR3.all x hx).1),aa,aa,Dm e5];cases hf:tq (Tm.sig b) (s.2.getD rule default).2 with
  |none=>simp[nS]
  |some v=>
   have hv60:v.length<=60:=by
    unfold tq at hf;split at hf
    ·rename_i h;cases hf;exact h
    ·cases hf
   simp only[nS,aC,aa];rw[Cp ha hu h2 hv60];rfl
def kE(s:Sys)(t:gv)(i rule:Int):Option gv:=
 if(jN s=true/\iV s.1 t=true)/\(0<=i/\i<t.length)/\(0<=rule/\rule<s.2.length)then ri s t i.toNat rule.toNat else none
theorem vW(s:Sys)(t:gv):mG s t=some (jN s&&iV s.1 t):=by
 unfold mG;rw[sd,aa];cases h1:jN s with
 |false=>simp
 |true=>simp[oS]
theorem wM{s:Sys}{t u:gv}{i rule:Int}(h:kE s t i rule=some u):u.length<=60:=by
 unfold kE at h;split at h
 ·unfold ri Cg at h;obtain⟨b,_,h⟩:=au.1 h;split at h
  ·rename_i hc;cases h;exact hc.2
  ·cases h
 ·cases h
abbrev zo:=Int×Int×gv
def mS(s:Sys):gv->List zo->Bool
 |_,[]=>true
 |t,x::r=>match kE s t x.1 x.2.1 with
  |some u=>u==x.2.2&&mS s u r
  |none=>false
def Bi(s:Sys)(w:gv×List zo):Bool:=jN s&&(iV s.1 w.1&&(decide (w.2.length<=60)&&mS s w.1 w.2))
theorem MA{s:Sys}{w:gv×List zo}{f:gv×Int->Option (gH⊕Bool)}
 (h:∀(t:gv)(i:Nat)(x:zo),i<w.2.length->w.2.getD i default=x->f (t,i)=some (match kE s t x.1 x.2.1 with|some u=>if u==x.2.2 then .inl (u,(i:Int)+1)else .inr false|none=>.inr false))
 (he:∀t,f (t,w.2.length)=some (.inr true)):iw f (w.1,0)=some (mS s w.1 w.2):=by
 have key:∀(k i:Nat)(t:gv),i+k=w.2.length->iw f (t,(i:Int))=some (mS s t (w.2.drop i)):=by
  intro k;induction k with
  |zero=>
   intro i t hi;obtain rfl:i=w.2.length:=by omega
   rw[iz (he t)];simp[mS]
  |succ k ih=>
   intro i t hi;have hlt:i<w.2.length:=by omega
   have e:=h t i _ hlt (iG hlt);rw[aA hlt,mS];cases hs:kE s t (w.2[i]).1 (w.2[i]).2.1 with
   |none=>
    rw[hs]at e;rw[iz e]
   |some u=>
    rw[hs]at e;simp only at e;by_cases hu:(u==(w.2[i]).2.2)=true
    ·rw[ah hu]at e;rw[iI e,show((i:Int)+1)=((i+1:Nat):Int) by omega,ih (i+1) u gY];simp only[hu,cn]
    ·rw[ak hu]at e;rw[iz e];simp only[Bool.not_eq_true]at hu;simp[hu]
 simpa using key w.2.length 0 w.1 gY
theorem qn{σ γ:Type}{n:Nat}(st:Nat->σ){c:γ}{f:σ->Option (σ⊕γ)}(h:∀i,i<n->f (st i)=some (.inl (st (i+1))))(he:f (st n)=some (.inr c)):iw f (st 0)=some c:=by
 have key:∀k i,i+k=n->iw f (st i)=some c:=by
  intro k;induction k with
  |zero=>
   intro i hi;obtain rfl:i=n:=by omega
   exact iz he
  |succ k ih=>intro i hi;rw[iI (h i gY)];exact ih (i+1) gY
 exact key n 0 gY
theorem drop_cons{α:Type}[Inhabited α]{a:List α}{i:Nat}{x:α}{r:List α}(h:a.drop i=x::r):i<a.length/\a.getD i default=x/\a.drop (i+1)=r:=by
 have hlt:i<a.length:=Nat.lt_of_not_le fun hn=>by rw[bG hn]at h;cases h
 rw[aA hlt]at h;simp only[bT]at h;exact⟨hlt,by rw[iG hlt,h.1],h.2⟩
abbrev LL:=List gv
abbrev K6:=Int×Int×Bool×gv
abbrev K5:=gv×List K6
def Q0(w:gv×List zo):K5:=(w.1,w.2.map fun s=>(s.2.1,s.1,false,s.2.2))
def zV(c:K5):gv:=if c.2.length=0 then c.1 else(c.2.getD (c.2.length-1) default).2.2.2
structure V3(c:K5):Prop where
 from':c.1.length<=60
 len:c.2.length<=60
 to:∀m∈c.2,m.2.2.2.length<=60
structure Zh(w:gv×List zo):Prop where
 from':w.1.length<=60
 len:w.2.length<=60
 to:∀m∈w.2,m.2.2.length<=60
theorem Zh.ch{w:gv×List zo}(h:Zh w):V3 (Q0 w):=
 ⟨h.from',by simpa[Q0]using h.len,fun m hm=>by obtain⟨s,hs,rfl⟩:=bz.1 hm;exact h.to s hs⟩
theorem V3.at{c:K5}(h:V3 c){i:Nat}(hi:i<c.2.length):(c.2.getD i default).2.2.2.length<=60:=h.to _ (jM hi)
theorem V3.end'{c:K5}(h:V3 c):(zV c).length<=60:=by
 unfold zV;split
 ·exact h.from'
 ·exact h.at gY
abbrev MC:=gv×gv
def J7(a:gv)(e:MC):Bool:=iV a e.1&&iV a e.2
def Fp(a:gv)(eqs:List MC):Bool:=jR a&&(decide (eqs.length<=12)&&eqs.all (J7 a))
theorem GD{a:gv}{e:MC}:J7 a e=true<->iV a e.1=true/\iV a e.2=true:=by simp[J7]
theorem EE{a:gv}{eqs:List MC}:Fp a eqs=true<->jR a=true/\eqs.length<=12/\∀e∈eqs,J7 a e=true:=by simp[Fp]
def KM(eqs:List MC)(m:K6):gv:=if m.2.2.1=true then(eqs.getD m.1.toNat default).2 else(eqs.getD m.1.toNat default).1
def KN(eqs:List MC)(m:K6):gv:=if m.2.2.1=true then(eqs.getD m.1.toNat default).1 else(eqs.getD m.1.toNat default).2
def Zm(eqs:List MC)(t:gv)(m:K6):Prop:=(0<=m.1/\m.1<eqs.length)/\(0<=m.2.1/\m.2.1<t.length)/\m.2.1<m.2.2.2.length
instance(eqs:List MC)(t:gv)(m:K6):Decidable (Zm eqs t m):=by unfold Zm;infer_instance
def EZ(a:gv)(eqs:List MC)(t:gv)(m:K6):Bool:=decide (Zm eqs t m)&&(iV a m.2.2.2&&Zp a (KM eqs m) (KN eqs m) t m.2.2.2 m.2.1.toNat)
def UK(a:gv)(eqs:List MC):gv->List K6->Bool
 |_,[]=>true
 |t,m::ms=>EZ a eqs t m&&UK a eqs m.2.2.2 ms
theorem OL{a:gv}{eqs:List MC}{t:gv}{m:K6}(h:EZ a eqs t m=true):iV a m.2.2.2=true:=by simp only[EZ,bu]at h;exact h.2.1
def Dk:gv->List K6->gv
 |t,[]=>t
 |_,m::ms=>Dk m.2.2.2 ms
theorem GC:∀{ms:List K6}{t:gv},(if ms.length=0 then t else(ms.getD (ms.length-1) default).2.2.2)=Dk t ms
 |[],_=>rfl
 |[m],t=>rfl
 |m::m'::ms,t=>by
  have:=GC (ms:=m'::ms) (t:=m.2.2.2);simpa[Dk]using this
theorem NS(c:K5):zV c=Dk c.1 c.2:=GC
theorem L5{a:gv}{eqs:List MC}{t:gv}{m:K6}(he:Fp a eqs=true)(ht:iV a t=true):
 EZ a eqs t m=true<->(0<=m.1/\m.1<eqs.length)/\0<=m.2.1/\iV a m.2.2.2=true/\Mv a (KM eqs m) (KN eqs m) t m.2.2.2 m.2.1.toNat:=by
 obtain⟨ha,hel,hall⟩:=EE.1 he;obtain⟨_,t1,t2,t3⟩:=iB.1 ht;have sides:(0<=m.1/\m.1<eqs.length)->Wf a 1 (KM eqs m)/\Wf a 1 (KN eqs m):=fun h=>by
  obtain⟨hL,hR⟩:=GD.1 (hall _ (jM (show m.1.toNat<eqs.length by omega)));unfold KM KN;cases m.2.2.1 with
  |true=>exact⟨(iB.1 hR).2.2.2,(iB.1 hL).2.2.2⟩
  |false=>exact⟨(iB.1 hL).2.2.2,(iB.1 hR).2.2.2⟩
 simp only[EZ,bu,av];unfold Zm;constructor
 ·rintro⟨⟨h1,h2,h3⟩,h4,h5⟩;exact⟨h1,h2.1,h4,(Kp (sides h1).1 (sides h1).2 t3 (iB.1 h4).2.2.2 gY gY).1 h5⟩
 ·rintro⟨h1,h2,h4,h5⟩;have h5':=h5;obtain⟨p,s,σ,hp,e1,e2,hσ⟩:=h5';have l1:=((sides h1).1.sub fun x _ hx=>hσ x hx).len;have l2:=((sides h1).2.sub fun x _ hx=>hσ x hx).len;have e1:=bX List.length e1;have e2:=bX List.length e2;simp only[ai]at e1 e2;exact⟨⟨h1,⟨h2,gY⟩,gY⟩,h4,(Kp (sides h1).1 (sides h1).2 t3 (iB.1 h4).2.2.2 gY gY).2 h5⟩
theorem Ss{s:Sys}(h:jN s=true):Fp s.1 s.2=true:=by
 obtain⟨h1,h2,h3⟩:=mg.1 h;exact EE.2 ⟨h1,h2,fun e he=>let h:=lF.1 (h3 e he);GD.2 ⟨h.1,h.2.1⟩⟩
theorem HG{s:Sys}{t u:gv}{x:zo}(h:kE s t x.1 x.2.1=some u)(hu:(u==x.2.2)=true):EZ s.1 s.2 t (x.2.1,x.1,false,x.2.2)=true:=by
 have hl:=wM h;unfold kE at h;split at h
 ·rename_i hc;obtain⟨⟨hs,ht⟩,hi,hr⟩:=hc;obtain rfl:u=x.2.2:=by simpa using hu
  obtain⟨_,_,h3⟩:=mg.1 hs;obtain⟨hL,hR,_,hv⟩:=lF.1 (h3 _ (jM (show x.2.1.toNat<s.2.length by omega)));have wL:=(iB.1 hL).2.2.2;have wR:=(iB.1 hR).2.2.2;obtain⟨ha,_,_,wt⟩:=iB.1 ht;obtain⟨hm,_⟩:=Pm wL wR wt (show x.1.toNat<t.length by omega) hv h;have wu:=hm.wf wL wR wt;exact(L5 (Ss hs) ht).2 ⟨hr,hi.1,iB.2 ⟨ha,wu.len,hl,wu⟩,hm⟩
 ·cases h
theorem D6{s:Sys}:∀{ms:List zo}{t:gv},mS s t ms=true->∀m∈ms,m.2.2.length<=60
 |[],_,_,m,hm=>by cases hm
 |x::ms,t,h,m,hm=>by
  rw[mS]at h;cases hs:kE s t x.1 x.2.1 with
  |none=>rw[hs]at h;cases h
  |some u=>
   rw[hs]at h;simp only[bu]at h;have hu:u=x.2.2:=by simpa using h.1
   rcases bI.1 hm with rfl|hm
   ·rw[<-hu];exact wM hs
   ·exact D6 h.2 m hm
theorem E_{s:Sys}{w:gv×List zo}:Bi s w=true<->jN s=true/\iV s.1 w.1=true/\w.2.length<=60/\mS s w.1 w.2=true:=by simp[Bi]
theorem HP{s:Sys}{w:gv×List zo}(h:Bi s w=true):Zh w:=by
 obtain⟨_,h2,h3,h4⟩:=E_.1 h;exact⟨(iB.1 h2).2.2.1,h3,D6 h4⟩
def lE{α:Type}(p:α->Bool)(xs:List α):Int:=match xs.findIdx? p with|some j=>(j:Int)|none=> -1
theorem xQ{α:Type}[Inhabited α]{xs:List α}{p:α->Bool}{f:Int->Option (Int⊕Int)}
 (h:∀(i:Nat)(x:α),i<xs.length->x∈xs->xs.getD i default=x->f (i:Int)=some (if p x=true then .inr (i:Int)else .inl ((i:Int)+1)))
 (he:f xs.length=some (.inr (-1))):iw f 0=some (lE p xs):=by
 have key:∀(k i:Nat),i+k=xs.length->iw f (i:Int)=some (match(xs.drop i).findIdx? p with|some j=>((i+j:Nat):Int)|none=> -1):=by
  intro k;induction k with
  |zero=>
   intro i hi;obtain rfl:i=xs.length:=by omega
   rw[iz he,f_];rfl
  |succ k ih=>
   intro i hi;have hlt:i<xs.length:=by omega
   have e:=h i _ hlt (bC hlt) (iG hlt);rw[aA hlt,List.findIdx?_cons];cases hp:p (xs[i])with
   |true=>rw[hp]at e;rw[iz e];simp
   |false=>
    rw[hp]at e;rw[iI e,show((i:Int)+1)=((i+1:Nat):Int) by omega,ih (i+1) gY];cases hf:(xs.drop (i+1)).findIdx? p with
    |none=>simp
    |some j=>
     simp only[aj,aE,aK];show some (((i+1+j:Nat):Int))=some (((i+(j+1):Nat):Int));rw[show i+1+j=i+(j+1) by omega]
 have:=key xs.length 0 gY;simp only[bF,bU]at this;exact this
theorem EJ{α:Type}{p:α->Bool}{xs:List α}: -1<=lE p xs/\lE p xs<xs.length:=by
 unfold lE;cases h:xs.findIdx? p with
 |none=>simp only;omega
 |some j=>have:=(fO.1 h).1;simp only;omega
theorem B7{α:Type}{p:α->Bool}{xs:List α}(h:∀x∈xs,p x=false):lE p xs= -1:=by
 unfold lE;rw[eX.2 h]
theorem EI{α:Type}{p:α->Bool}{xs:List α}{x:α}(hx:x∈xs)(hp:p x=true):0<=lE p xs:=by
 unfold lE;cases h:xs.findIdx? p with
 |none=>have:=eX.1 h x hx;rw[hp]at this;cases this
 |some j=>simp only;omega
theorem FB{a p t:gv}{r:Bd×Bool}(h:tc (xm a p t kf) r):r.2=(xm a p t kf).isSome:=by
 cases hm:xm a p t kf with
 |none=>rw[hm]at h;exact h
 |some b=>rw[hm]at h;exact h.1
theorem tH{l:List gv}(hl:l.length<1099511627776)(hs:∀x∈l,Small x)(t:gv):pM l t=some (lE (fun x=>x==t) l):=by
 unfold pM;refine xQ (fun i x hi hx hg=>?_) (by simp[qc]);simp only[qc,show(i:Int)<l.length by omega,aT,aC,show(0:Int)<=i by omega,bK,aq,hg,lg (n:=(i:Int)+1) gY gY,aK,lX (hs x hx),aa];cases x==t<;>rfl
theorem Ex{α:Type}{p:α->Bool}{xs:List α}:decide (0<=lE p xs)=xs.any p:=by
 cases h:xs.any p with
 |true=>
  obtain⟨x,hx,hp⟩:=ec.1 h;exact eU (EI hx hp)
 |false=>
  rw[B7 (fun x hx=>by have:=fS.1 h x hx;simpa using this)];rfl
def MX(s:Sys)(t:gv)(i j:Nat):Bool:=(xm s.1 (s.2.getD j default).1 (at' s.1 t i) kf).isSome
theorem HH{s:Sys}{t u:gv}{i j:Nat}(h:ri s t i j=some u):MX s t i j=true:=by
 unfold ri Cg at h;unfold MX;obtain⟨b,hb,_⟩:=au.1 h;rw[hb];rfl
theorem Co{s:Sys}{t:gv}{i rule:Nat}(hs:jN s=true)(ht:iV s.1 t=true)(hi:i<t.length)(hr:rule<s.2.length):sO s t i rule=some (MX s t i rule):=by
 obtain⟨ha,_,hrs⟩:=mg.1 hs;obtain⟨_,h1,h2,hw⟩:=iB.1 ht;obtain⟨p,u,q,rfl,rfl,hu⟩:=hw.place hi;have hL:=(lF.1 (hrs _ (jM hr))).1;have hm:∀x∈p++(u++q), -24<=x:=fun x hx=>(hw.all x hx).1
 have hul:u.length<=60:=by simp at h2;omega
 obtain⟨_,hL1,hL2,hL3⟩:=iB.1 hL;unfold sO MX rR;rw[ah gY,uK ha (by show List.length _<_;omega) hm bS hu,aa,aq,yC hu];obtain⟨r,e⟩:=(uG ha hL3 hu hL2 hul).2 trivial;rw[e,aa,aa,FB ((uG ha hL3 hu hL2 hul).1 r e)]
theorem Vu{s:Sys}{t:gv}{i j:Nat}(hs:jN s=true)(ht:iV s.1 t=true)(hi:i<t.length)(hj:j<s.2.length)(hn:t.getD i default<0):MX s t i j=false:=by
 obtain⟨ha,_,hrs⟩:=mg.1 hs;obtain⟨_,h1,h2,hw⟩:=iB.1 ht;obtain⟨p,u,q,rfl,rfl,hu⟩:=hw.place hi;obtain⟨hL,_,hh,_⟩:=lF.1 (hrs _ (jM hj));obtain⟨_,hL1,hL2,hL3⟩:=iB.1 hL;unfold MX;rw[yC hu];obtain⟨x,r,rfl,_,_⟩:=hu.pos;have hx:x<0:=by
  have e:(p++(x::r++q)).getD p.length default=x:=by simp[ay]
  rwa [e]at hn
 generalize(s.2.getD j default).1=l at *;obtain⟨y,k,rfl,_,_⟩:=hL3.pos;have hy:¬y<0:=by simpa using hh
 rw[CI hy,ak gY];rfl
def uC(s:Sys)(t:gv)(js:List Nat)(i:Nat):List zo:=js.filterMap fun j=>(ri s t i j).map fun u=>((i:Int),(j:Int),u)
def MY(s:Sys)(t:gv):List zo:=(List.range t.length).flatMap (uC s t (List.range s.2.length))
def V9(s:Sys)(t:gv)(js:List Nat)(i:Nat):Bool:=js.any fun j=>MX s t i j&&(ri s t i j).isNone
def XN(s:Sys)(t:gv):Bool:=(List.range t.length).any (V9 s t (List.range s.2.length))
def Zr(s:Sys)(t:gv)(js:List Nat)(i:Nat):Nat:=(js.filter (MX s t i)).length
theorem Vy{s:Sys}{t:gv}{i:Nat}:∀js:List Nat,(uC s t js i).length<=Zr s t js i/\(V9 s t js i=true<->(uC s t js i).length<Zr s t js i)
 |[]=>by simp[uC,Zr,V9]
 |j::js=>by
  obtain⟨h1,h2⟩:=Vy (s:=s) (t:=t) (i:=i) js;unfold uC Zr V9 at *;rw[List.filterMap_cons,dx,e_];cases hq:ri s t i j with
  |some u=>
   have:=HH hq;simp only[aK,this,aC,aQ,Option.isNone_some,Bool.and_false,Bool.false_or];exact⟨gY,h2.trans gY⟩
  |none=>
   cases hr:MX s t i j with
   |true=>simp;omega
   |false=>simp only[eO,aj,aE,Bool.false_and,Bool.false_or];exact⟨h1,h2⟩
theorem E6{s:Sys}{t:gv}{js:List Nat}{i:Nat}:(uC s t js i).length<=js.length:=List.length_filterMap_le _ _
theorem CP{s:Sys}{t:gv}(hs:jN s=true)(ht:iV s.1 t=true):∀{n:Nat},n<=t.length->((List.range n).flatMap (uC s t (List.range s.2.length))).length<=n*12
 |0,_=>by simp
 |n+1,h=>by
  have:=CP hs ht (n:=n) gY;have h2:=E6 (s:=s) (t:=t) (js:=List.range s.2.length) (i:=n);have h3:=(mg.1 hs).2.1;rw[gk,List.flatMap_append,ai];simp only[List.length_range]at h2;simp only[cX,List.flatMap_nil,aW];omega
theorem Jt{s:Sys}{t:gv}{i n:Nat}:uC s t (List.range (n+1)) i=uC s t (List.range n) i++(match ri s t i n with|some u=>[((i:Int),(n:Int),u)]|none=>[]):=by
 unfold uC;rw[gk,List.filterMap_append];congr 1;cases h:ri s t i n<;>simp[h]
theorem AA{s:Sys}{t:gv}(hs:jN s=true)(ht:iV s.1 t=true):vA s t=some (MY s t):=by
 obtain⟨_,hn,_⟩:=mg.1 hs;obtain⟨_,h1,h60,_⟩:=iB.1 ht;unfold vA;have A:=qn (n:=t.length) (fun i=>((List.range i).flatMap (uC s t (List.range s.2.length)),(i:Int))) (c:=MY s t) (f:=qk s t) (fun i hi=>by
  have hlen:=CP hs ht (n:=i) gY;generalize hO:(List.range i).flatMap (uC s t (List.range s.2.length))=o at hlen;have B:=qn (n:=s.2.length) (fun j=>(o++uC s t (List.range j) i,(j:Int))) (c:=.inl (o++uC s t (List.range s.2.length) i,((i:Int)+1))) (f:=ql s t (i:Int)) (fun j hj=>by
   have hr:=E6 (s:=s) (t:=t) (js:=List.range j) (i:=i);rw[List.length_range]at hr;unfold ql;simp only;rw[ah (by simpa using hj),wW hs ht hi hj,aa,lg gY gY,Jt];cases hq:ri s t i j with
   |none=>simp[nS]
   |some u=>
    simp only[nS,aC];rw[ah (by simp only[ai];omega),aG];rfl) (by
   unfold ql;simp only;rw[ak (by simp),lg gY gY];rfl)
  simp only[List.range_zero]at B;have e0:uC s t [] i=[]:=rfl;rw[e0,aW]at B;unfold qk;simp only;rw[ah (by simpa using hi),show((0:Nat):Int)=0 from rfl]at *;rw[B,gk,List.flatMap_append,hO];simp) (by
  unfold qk;simp only;rw[ak (by simp)];rfl)
 simpa using A
def Wt(s:Sys)(t:gv)(i j:Nat):yA:=(((i:Int),(j:Int),(nS (ri s t i j)).1),(nS (ri s t i j)).2)
theorem N1{s:Sys}{t u:gv}{i j:Nat}(h:ri s t i j=some u):Wt s t i j=(((i:Int),(j:Int),u),true):=by unfold Wt;rw[h];rfl
theorem NZ{s:Sys}{t:gv}{i j:Nat}(h:ri s t i j=none):(Wt s t i j).2=false:=by unfold Wt;rw[h];rfl
def S0(s:Sys)(t:gv)(js:List Nat)(i:Nat):List yA:=(js.filter (MX s t i)).map (Wt s t i)
theorem DU{s:Sys}{t:gv}{i:Nat}(hs:jN s=true)(ht:iV s.1 t=true)(hi:i<t.length):∀k,k<=s.2.length->ur s t i k=some (S0 s t (List.range' (s.2.length-k) k) i)
 |0,_=>rfl
 |k+1,hk=>by
  have ih:=DU hs ht hi k gY;have e:List.range' (s.2.length-(k+1)) (k+1)=(s.2.length-(k+1))::List.range' (s.2.length-k) k:=by rw[dL];congr 2;omega
  unfold ur;rw[e];have hr:s.2.length-(k+1)<s.2.length:=by omega
  by_cases hn:t.getD i default<0
  ·rw[ah (by simpa using hn),ih];unfold S0;rw[dx,Vu hs ht hi hr hn];rfl
  ·rw[ak (by simpa using hn),Co hs ht hi hr,aa];unfold S0;rw[dx];cases hq:MX s t i (s.2.length-(k+1))with
   |false=>simp only[aj,aE];exact ih
   |true=>
    simp only[aC];rw[yw hs ht hi hr,aa,ih];rfl
theorem Cd{s:Sys}{t:gv}(hs:jN s=true)(ht:iV s.1 t=true):∀k,k<=t.length->vL s t k=some ((List.range' (t.length-k) k).flatMap (S0 s t (List.range s.2.length)))
 |0,_=>rfl
 |k+1,hk=>by
  have ih:=Cd hs ht k gY;have e:List.range' (t.length-(k+1)) (k+1)=(t.length-(k+1))::List.range' (t.length-k) k:=by rw[dL];congr 2;omega
  unfold vL;rw[e,DU hs ht gY _ (aF _),aa,ih,cM,<-dG];rfl
def Lz(s:Sys)(t:gv):List yA:=(List.range t.length).flatMap (S0 s t (List.range s.2.length))
theorem Ed{s:Sys}{t:gv}(hs:jN s=true)(ht:iV s.1 t=true):xF s t=some (Lz s t):=by
 unfold xF Lz;rw[Cd hs ht _ (aF _),cM,<-dG]
theorem N2{s:Sys}{t:gv}{i:Nat}:∀js:List Nat,((S0 s t js i).filter (·.2)).map (·.1)=uC s t js i/\(S0 s t js i).any (fun x=>!x.2)=V9 s t js i
 |[]=>⟨rfl,rfl⟩
 |j::js=>by
  obtain⟨h1,h2⟩:=N2 (s:=s) (t:=t) (i:=i) js;unfold S0 uC V9 at *;rw[dx,List.filterMap_cons,e_];cases hq:ri s t i j with
  |some u=>simp only[HH hq,aC,aP,dx,e_,N1 hq,h1,h2,aK,Option.isNone_some,Bool.and_false,Bool.not_true,Bool.false_or,bK]
  |none=>cases hr:MX s t i j<;>simp[NZ hq,h1,h2]
theorem IB(s:Sys)(t:gv):((Lz s t).filter (·.2)).map (·.1)=MY s t/\(Lz s t).any (fun x=>!x.2)=XN s t:=by
 unfold Lz MY XN;generalize List.range t.length=is;induction is with
 |nil=>exact⟨rfl,rfl⟩
 |cons i is ih=>
  obtain⟨h1,h2⟩:=N2 (s:=s) (t:=t) (i:=i) (List.range s.2.length);simp only[cX,eW,aR,List.any_append,e_,h1,h2,ih.1,ih.2,bK]
theorem Mi{α:Type}[Inhabited α]{xs:List α}{i:Nat}(h:i<xs.length):xs.take (i+1)=xs.take i++[xs.getD i default]:=by rw[bV h,iG h]
theorem zI{s:Sys}{t:gv}(hs:jN s=true)(ht:iV s.1 t=true):oO s t=some (MY s t,XN s t):=by
 unfold oO;rw[show sP s t=some ()from rfl,aa,Ed hs ht,aa];have hb:∀j,(((Lz s t).take j).filter (·.2)).length<=720:=fun j=>by
  have h1:(((Lz s t).take j).filter (·.2)).length<=((Lz s t).filter (·.2)).length:=((List.take_sublist _ _).filter _).length_le;have h2:=bX List.length (IB s t).1;rw[aM]at h2;have h3:=CP hs ht (n:=t.length) (aF _);have h4:=(iB.1 ht).2.2.1;unfold MY at h2;omega
 have A:=qn (n:=(Lz s t).length) (fun j=>(j,(((Lz s t).take j).filter (·.2)).map (·.1),((Lz s t).take j).any (fun x=>!x.2))) (c:=(MY s t,XN s t)) (f:=lH (Lz s t)) (fun j hj=>by
  have h0:=hb j;unfold lH;simp only;rw[ah hj,Mi hj];generalize(Lz s t).getD j default=x;cases hx:x.2 with
  |true=>
   simp only[aC];rw[ah (by rw[aM];omega),eW,aR,List.any_append];simp[hx]
  |false=>
   simp[hx]) (by
  unfold lH;simp only;rw[ak (eH _),cA,(IB s t).1,(IB s t).2];rfl)
 simpa using A
theorem Sr{s:Sys}{t u:gv}{i j:Nat}(hs:jN s=true)(ht:iV s.1 t=true)(hi:i<t.length)(hj:j<s.2.length)(h:ri s t i j=some u):iV s.1 u=true:=by
 have hst:kE s t (i:Int) (j:Int)=some u:=by
  unfold kE;rw[ah ⟨⟨hs,ht⟩,⟨gY,gY⟩,gY,gY⟩];exact h
 exact OL (m:=((j:Int),(i:Int),false,u)) (HG (x:=((i:Int),(j:Int),u)) hst (by simp))
theorem VQ{s:Sys}{t:gv}(hs:jN s=true)(ht:iV s.1 t=true):∀x∈MY s t,iV s.1 x.2.2=true:=fun x hx=>by
 obtain⟨i,hi,hx⟩:=fj.1 hx;obtain⟨j,hj,hx⟩:=List.mem_filterMap.1 hx;obtain⟨u,hu,rfl⟩:=az.1 hx;exact Sr hs ht (cW.1 hi) (cW.1 hj) hu
theorem Kv{a t:gv}(h:iV a t=true):t.length<=60:=(iB.1 h).2.2.1
theorem Sq{s:Sys}{t:gv}(hs:jN s=true)(ht:iV s.1 t=true):(MY s t).length<=720:=by
 have h3:=CP hs ht (n:=t.length) (aF _);have h4:=Kv ht;unfold MY;omega
def xV(s:Sys)(t:gv)(steps:Int):Bool:=jN s&&(iV s.1 t&&decide (0<=steps/\steps<=20))
theorem su{s:Sys}{t:gv}{steps:Int}:xV s t steps=true<->jN s=true/\iV s.1 t=true/\0<=steps/\steps<=20:=by simp[xV]
def NY(steps:Int):Bool:=decide (0<=steps)&&decide (steps<=20)
theorem Fk{steps:Int}:NY steps=true<->0<=steps/\steps<=20:=by simp[NY]
abbrev I6:=gv×Int×Int×Int×gv×Int
theorem pQ{all:List I6}{t:gv}(hl:all.length<=60)(hs:∀r∈all,Small r.1):qJ all t=some (lE (fun r:I6=>r.1==t) all):=by
 unfold qJ
 suffices h:iX all t=some (lE (fun r:I6=>r.1==t) all) by rw[h];rfl
 unfold iX;refine xQ (fun i x hi hx hg=>?_) (by simp[jk]);simp only[jk,show(i:Int)<all.length by omega,aT,aC,show(0:Int)<=i by omega,bK,aq,hg,lg (n:=(i:Int)+1) gY gY,aK,sM,ou (hs x hx),aa];cases x.1==t<;>rfl
theorem Qk{l:LL}{t:gv}:(l.any fun x=>x==t)=decide (t∈l):=by
 rw[gp,ec,decide_eq_true_iff];exact⟨fun⟨x,hx,he⟩=>by rw[<-bw.1 he];exact hx,fun h=>⟨t,h,bw.2 rfl⟩⟩
theorem vG{α β:Type}[Inhabited α][Inhabited β]{xs:List α}{g:α->β}{i:Nat}(h:i<xs.length):(xs.map g).getD i default=g (xs.getD i default):=by rw[iG (by simpa using h),iG h,fY]
theorem vX(s:Sys)(t:gv)(steps:Int):s_ s t steps=some (xV s t steps):=by
 unfold s_ mG xV;rw[sd,aa];cases hs:jN s with
 |false=>simp
 |true=>
  simp only[aC,oS,aa,cn];cases iV s.1 t with
  |false=>simp
  |true=>simp[lD]
def uw(A:List I6)(j:Nat):I6:=A.getD j default
structure Rec(s:Sys)(steps:Int)(A:List I6)(j:Nat)(x:I6):Prop where
 tm:iV s.1 x.1=true
 ds:0<=x.2.2.2.2.2/\x.2.2.2.2.2<=steps
 root:j=0->x.2.1= -1
 up:0<j->∃p:Nat,x.2.1=(p:Int)/\p<j/\kE s (uw A p).1 x.2.2.1 x.2.2.2.1=some x.1/\x.2.2.2.2.1=x.1
structure R6(s:Sys)(steps:Int)(A:List I6):Prop where
 pos:0<A.length
 len:A.length<=60
 el:∀j,j<A.length->Rec s steps A j (uw A j)
theorem zq{A B:List I6}{j:Nat}(h:j<A.length):uw (A++B) j=uw A j:=by unfold uw;rw[ay,aZ h,<-ay]
theorem R6.push{s:Sys}{steps:Int}{A:List I6}(h:R6 s steps A)(hl:A.length<60){x:I6}(ht:iV s.1 x.1=true)(hd:0<=x.2.2.2.2.2/\x.2.2.2.2.2<=steps){p:Nat}(hp:p<A.length)(e:x.2.1=(p:Int))(hs:kE s (uw A p).1 x.2.2.1 x.2.2.2.1=some x.1)(ho:x.2.2.2.2.1=x.1):R6 s steps (A++[x]):=by
 have hpos:=h.pos;refine⟨by simp,by rw[ai,aL];omega,fun j hj=>?_⟩;rw[ai,aL]at hj;by_cases c:j<A.length
 ·rw[zq c];obtain⟨k1,k2,k3,k4⟩:=h.el j c;refine⟨k1,k2,k3,fun h0=>?_⟩;obtain⟨q,q1,q2,q3,q4⟩:=k4 h0;exact⟨q,q1,q2,by rw[zq gY];exact q3,q4⟩
 ·have hj':j=A.length:=by omega
  subst hj';have e2:uw (A++[x]) A.length=x:=by unfold uw;rw[ay,bH (aF _)];simp
  rw[e2];exact⟨ht,hd,fun c=>by omega,fun _=>⟨p,e,hp,by rw[zq hp];exact hs,ho⟩⟩
abbrev m1(A:List I6):LL:=A.map fun x=>x.1
abbrev m2(A:List I6):gv:=A.map fun x=>x.2.1
abbrev m3(A:List I6):List zo:=A.map fun x=>(x.2.2.1,x.2.2.2.1,x.2.2.2.2.1)
abbrev m4(A:List I6):gv:=A.map fun x=>x.2.2.2.2.2
theorem R6.sm{s:Sys}{steps:Int}{A:List I6}(h:R6 s steps A):∀r∈A,r.1.length<=60:=fun r hr=>by
 obtain⟨j,hj,e⟩:=List.getElem_of_mem hr;have:=(h.el j hj).tm;unfold uw at this;rw[iG hj,e]at this;exact(iB.1 this).2.2.1
theorem Uy{A:List I6}{t:gv}:(A.any fun r:I6=>r.1==t)=decide (t∈m1 A):=by
 rw[gp,ec,decide_eq_true_iff];exact⟨fun⟨x,hx,he⟩=>bz.2 ⟨x,hx,bw.1 he⟩,fun h=>by
  obtain⟨x,hx,e⟩:=bz.1 h;exact⟨x,hx,bw.2 e⟩⟩
theorem Qs{s:Sys}{steps d:Int}(h20:steps<=20)(hd:0<=d/\d<steps){L:List zo}(hL:L.length<=720){b0:Bool}{k:Nat}{t:gv}(hT:∀x∈L,iV s.1 x.2.2=true/\kE s t x.1 x.2.1=some x.2.2):∀(r:List zo){i:Nat}{A:List I6},
 L.drop i=r->k<A.length->(uw A k).2.2.2.2.2=d->(uw A k).1=t->R6 s steps A->
 ∃A' b,R6 s steps A'/\k<A'.length/\A.length<=A'.length/\uw A' 0=uw A 0/\
  iw (nV (k:Int) (L,b0)) (A,(i:Int))=some (if b=true then .inl (A',(k:Int)+1)else .inr (A',false))/\
  iw (oY (k:Int) L) ((i:Int),m1 A,m2 A,m3 A,m4 A)=some (if b=true then .inl ((k:Int)+1,m1 A',m2 A',m3 A',m4 A')else .inr (m1 A',m2 A',m3 A',m4 A',false)):=by
 intro r;induction r with
 |nil=>
  intro i A he hk hq ht h;have hn:L.length<=i:=by simpa using he
  have hl:=h.len;refine⟨A,true,h,hk,aF _,rfl,iz ?_,iz ?_⟩
  ·simp only[nV,show ¬(i:Int)<L.length by omega,aU,aj,aE,aK,aC,lg (n:=(k:Int)+1) gY gY]
  ·simp only[oY,show ¬(i:Int)<L.length by omega,aU,aj,aE,aK,aC,lg (n:=(k:Int)+1) gY gY]
 |cons x r ih=>
  intro i A he hk hq ht h;obtain⟨h1,h2,h3⟩:=drop_cons he;obtain⟨hx,hxs⟩:=hT x (by rw[<-h2];exact jM h1);have hl:=h.len;have hsm0:=h.sm;have B_:∀r∈A,Small r.1:=fun r hr=>by have:=hsm0 r hr;show r.1.length<_;omega
  have hsm1:∀t∈m1 A,Small t:=fun t ht=>by
   obtain⟨y,hy,rfl⟩:=bz.1 ht;exact B_ y hy
  have hfd:=pQ (t:=x.2.2) hl B_;have hfs:=tH (l:=m1 A) (by simp;omega) hsm1 x.2.2;have ha1:decide (0<=lE (fun r:I6=>r.1==x.2.2) A)=decide (x.2.2∈m1 A):=by rw[Ex,Uy]
  have ha2:decide (0<=lE (fun y=>y==x.2.2) (m1 A))=decide (x.2.2∈m1 A):=by rw[Ex,Qk]
  have hq':(A.getD k default).2.2.2.2.2=d:=hq;have hgd:(m4 A).getD k default=d:=by rw[vG hk];exact hq
  have b1:nV (k:Int) (L,b0) (A,(i:Int))=some (if x.2.2∈m1 A then .inl (A,(i:Int)+1)else if A.length=60 then .inr (.inr (A,false))else .inl (A++[(x.2.2,(k:Int),x.1,x.2.1,x.2.2,d+1)],(i:Int)+1)):=by
   simp only[nV,show(i:Int)<L.length by omega,aT,aC,show(0:Int)<=i by omega,bK,aq,h2,hfd,aa,ha1,lg (n:=(i:Int)+1) gY gY,show(0:Int)<=k by omega,show(k:Int)<A.length by omega,hq',lg (n:=d+1) gY gY,show(A.length+1)*80<=140737488355328 by omega];by_cases hm:x.2.2∈m1 A
   ·simp[hm]
   ·simp only[hm,aU,aj,aE];by_cases h60:A.length=60
    ·rw[ah (by simpa using(by omega:(A.length:Int)=60)),ah h60];rfl
    ·rw[ak (by simpa using(by omega:(A.length:Int)≠60)),ak h60]
  have b2:oY (k:Int) L ((i:Int),m1 A,m2 A,m3 A,m4 A)=some (if x.2.2∈m1 A then .inl ((i:Int)+1,m1 A,m2 A,m3 A,m4 A)else if A.length=60 then .inr (.inr (m1 A,m2 A,m3 A,m4 A,false))else .inl ((i:Int)+1,m1 A++[x.2.2],m2 A++[(k:Int)],m3 A++[(x.1,x.2.1,x.2.2)],m4 A++[d+1])):=by
   simp only[oY,show(i:Int)<L.length by omega,aT,aC,show(0:Int)<=i by omega,bK,aq,h2,hfs,aa,ha2,lg (n:=(i:Int)+1) gY gY,show(0:Int)<=k by omega,aM,show(k:Int)<A.length by omega,hgd,lg (n:=d+1) gY gY,show(A.length+1)*24<=140737488355328 by omega,show(A.length+1)*8<=140737488355328 by omega,show(A.length+1)*40<=140737488355328 by omega];by_cases hm:x.2.2∈m1 A
   ·simp[hm]
   ·simp only[hm,aU,aj,aE];by_cases h60:A.length=60
    ·rw[ah (by simpa using(by omega:(A.length:Int)=60)),ah h60];rfl
    ·rw[ak (by simpa using(by omega:(A.length:Int)≠60)),ak h60]
  by_cases hm:x.2.2∈m1 A
  ·rw[ah hm]at b1 b2;obtain⟨A',b,q1,q2,q3,q4,q5,q6⟩:=ih (i:=i+1) h3 hk hq ht h;exact⟨A',b,q1,q2,q3,q4,(iI b1).trans q5,(iI b2).trans q6⟩
  ·rw[ak hm]at b1 b2;by_cases h60:A.length=60
   ·rw[ah h60]at b1 b2;exact⟨A,false,h,hk,aF _,rfl,iz b1,iz b2⟩
   ·rw[ak h60]at b1 b2;have hn:=h.push gY (x:=(x.2.2,(k:Int),x.1,x.2.1,x.2.2,d+1)) hx ⟨by simp;omega,by simp;omega⟩ hk rfl (by rw[ht];exact hxs) rfl;obtain⟨A',b,q1,q2,q3,q4,q5,q6⟩:=ih (i:=i+1) (A:=A++[(x.2.2,(k:Int),x.1,x.2.1,x.2.2,d+1)]) h3 (by simp;omega) (by rw[zq hk];exact hq) (by rw[zq hk];exact ht) hn;rw[ai,aL]at q3;refine⟨A',b,q1,q2,gY,by rw[q4,zq h.pos],(iI b1).trans q5,(iI b2).trans ?_⟩;have e:(m1 A++[x.2.2],m2 A++[(k:Int)],m3 A++[(x.1,x.2.1,x.2.2)],m4 A++[d+1])=(m1 (A++[(x.2.2,(k:Int),x.1,x.2.1,x.2.2,d+1)]),m2 (A++[(x.2.2,(k:Int),x.1,x.2.1,x.2.2,d+1)]),m3 (A++[(x.2.2,(k:Int),x.1,x.2.1,x.2.2,d+1)]),m4 (A++[(x.2.2,(k:Int),x.1,x.2.1,x.2.2,d+1)])):=by simp
    rw[e];exact q6
theorem Ph{s:Sys}{t:gv}(hs:jN s=true)(ht:iV s.1 t=true):∀x∈MY s t,iV s.1 x.2.2=true/\kE s t x.1 x.2.1=some x.2.2:=fun x hx=>by
 refine⟨VQ hs ht x hx,?_⟩;obtain⟨i,hi,hx⟩:=fj.1 hx;obtain⟨j,hj,e⟩:=List.mem_filterMap.1 hx;obtain⟨u,hu,rfl⟩:=az.1 e;have hi':=cW.1 hi;have hj':=cW.1 hj;simp only;unfold kE;simp only[hs,ht,aq];simp[hu,hi',hj']
theorem Fh{s:Sys}{steps:Int}(hs:jN s=true)(h20:0<=steps/\steps<=20):∀(f:Nat){k:Nat}{A:List I6},61<=k+f->k<=A.length->R6 s steps A->
 ∃A' b,R6 s steps A'/\uw A' 0=uw A 0/\iw (mM s steps) (A,(k:Int))=some (A',b)/\iw (ni s steps) ((k:Int),m1 A,m2 A,m3 A,m4 A)=some (m1 A',m2 A',m3 A',m4 A',b)
 |0,k,A,hf,hk,h=>by
  have:=h.len;omega
 |f+1,k,A,hf,hk,h=>by
  have hl:=h.len;by_cases hlt:k<A.length
  ·have hrec:=h.el k hlt;have ge1:(m1 A).getD k default=(A.getD k default).1:=vG (g:=fun x:I6=>x.1) hlt;have ge4:(m4 A).getD k default=(A.getD k default).2.2.2.2.2:=vG (g:=fun x:I6=>x.2.2.2.2.2) hlt;have htm:iV s.1 (A.getD k default).1=true:=hrec.tm;have hds:0<=(A.getD k default).2.2.2.2.2/\(A.getD k default).2.2.2.2.2<=steps:=hrec.ds;by_cases hst:(A.getD k default).2.2.2.2.2=steps
   ·obtain⟨A',b,q1,q2,q3,q4⟩:=Fh hs h20 f (k:=k+1) gY gY h;refine⟨A',b,q1,q2,(iI ?_).trans q3,(iI ?_).trans q4⟩
    ·simp only[mM,show(k:Int)<A.length by omega,aT,aC,show(0:Int)<=k by omega,bK,aq,hst,cj,lg (n:=(k:Int)+1) gY gY];rfl
    ·simp only[ni,aM,show(k:Int)<A.length by omega,aT,aC,show(0:Int)<=k by omega,bK,aq,ge4,hst,cj,lg (n:=(k:Int)+1) gY gY];rfl
   ·have hne:((A.getD k default).2.2.2.2.2==steps)=false:=by simpa using hst
    obtain⟨A1,b,q1,q2,q3,q4,q5,q6⟩:=Qs (s:=s) (b0:=XN s (A.getD k default).1) h20.2 (d:=(A.getD k default).2.2.2.2.2) ⟨hds.1,gY⟩ (Sq hs htm) (Ph hs htm) (MY s (A.getD k default).1) (i:=0) rfl hlt rfl rfl h;have c1:mM s steps (A,(k:Int))=some (if b=true then .inl (A1,(k:Int)+1)else .inr (A1,false)):=by
     simp only[mM,show(k:Int)<A.length by omega,aT,aC,show(0:Int)<=k by omega,bK,aq,hne,aj,aE,zI hs htm,aa];exact q5
    have c2:ni s steps ((k:Int),m1 A,m2 A,m3 A,m4 A)=some (if b=true then .inl ((k:Int)+1,m1 A1,m2 A1,m3 A1,m4 A1)else .inr (m1 A1,m2 A1,m3 A1,m4 A1,false)):=by
     simp only[ni,aM,show(k:Int)<A.length by omega,aT,aC,show(0:Int)<=k by omega,bK,aq,ge1,ge4,hne,aj,aE,AA hs htm,aa];exact q6
    cases b with
    |true=>
     obtain⟨A',b',r1,r2,r3,r4⟩:=Fh hs h20 f (k:=k+1) (A:=A1) gY gY q1;exact⟨A',b',r1,by rw[r2,q4],(iI c1).trans r3,(iI c2).trans r4⟩
    |false=>exact⟨A1,false,q1,q4,iz c1,iz c2⟩
  ·refine⟨A,true,h,rfl,iz ?_,iz ?_⟩
   ·simp only[mM,show ¬(k:Int)<A.length by omega,aU,aj,aE,aK]
   ·simp only[ni,aM,show ¬(k:Int)<A.length by omega,aU,aj,aE,aK]
theorem xH{s:Sys}{t:gv}{steps:Int}(h:xV s t steps=true):∃A b,R6 s steps A/\(uw A 0).1=t/\qM s t steps=some (A,b)/\uj s t steps=some (m1 A,m2 A,m3 A,m4 A,b):=by
 obtain⟨h1,h2,h3⟩:=su.1 h;have B_:=Kv h2;have r0:R6 s steps [(t, -1,0,0,[],0)]:=⟨by simp,by simp,fun j hj=>by
  have:j=0:=by simpa using hj
  subst this;exact⟨h2,⟨ek _,h3.1⟩,fun _=>rfl,fun c=>by omega⟩⟩
 obtain⟨A,b,q1,q2,q3,q4⟩:=Fh h1 h3 61 (k:=0) (A:=[(t, -1,0,0,[],0)]) gY (by simp) r0;refine⟨A,b,q1,by rw[q2];rfl,?_,?_⟩
 ·unfold qM;rw[qh (l:=t) (by show t.length<_;omega),aa];exact q3
 ·unfold uj;rw[kK (l:=t) (by show t.length<_;omega),aa];exact q4
def Zb(x:I6):zo:=(x.2.2.1,x.2.2.2.1,x.2.2.2.2.1)
def CD(A:List I6):Nat->Nat->List zo
 |0,_=>[]
 |f+1,j=>if j=0 then []else Zb (uw A j)::CD A f (uw A j).2.1.toNat
theorem JP(A:List I6):∀(f j:Nat),(CD A f j).length<=f
 |0,j=>by simp[CD]
 |f+1,j=>by
  rw[CD];split
  ·simp
  ·rw[aQ];have:=JP A f (uw A j).2.1.toNat;omega
theorem LB(t:gv)(ms:List K6)(m:K6):Dk t (ms++[m])=m.2.2.2:=by
 induction ms generalizing t with
 |nil=>rfl
 |cons x ms ih=>exact ih x.2.2.2
theorem Ab{s:Sys}:∀{ms:List zo}{t:gv}{x:zo},mS s t ms=true->kE s (Dk t (ms.map fun x=>(x.2.1,x.1,false,x.2.2))) x.1 x.2.1=some x.2.2->mS s t (ms++[x])=true
 |[],t,x,h,hx=>by
  have hx':kE s t x.1 x.2.1=some x.2.2:=hx;simp[mS,hx']
 |y::ms,t,x,h,hx=>by
  rw[bP];unfold mS at h⊢;cases hy:kE s t y.1 y.2.1 with
  |none=>rw[hy]at h;cases h
  |some u=>
   rw[hy]at h;simp only[bu]at h⊢;obtain⟨e,h⟩:=h;refine⟨e,?_⟩;have e':=bw.1 e;exact Ab h (by
    have:Dk t ((y::ms).map fun x=>(x.2.1,x.1,false,x.2.2))=Dk y.2.2 (ms.map fun x=>(x.2.1,x.1,false,x.2.2)):=rfl;rw[this]at hx;first|exact hx|(rw[e'];exact hx)|(rw[<-e'];exact hx))
theorem JQ{s:Sys}{steps:Int}{A:List I6}(h:R6 s steps A):∀(f j:Nat),j<A.length->j<=f->mS s (uw A 0).1 (CD A f j).reverse=true/\Dk (uw A 0).1 ((CD A f j).reverse.map fun x=>(x.2.1,x.1,false,x.2.2))=(uw A j).1
 |0,j,hj,hf=>by
  have:j=0:=by omega
  subst this;simp[CD,mS,Dk]
 |f+1,j,hj,hf=>by
  rw[CD];by_cases h0:j=0
  ·subst h0;rw[ah rfl];simp[mS,Dk]
  ·rw[ak h0];obtain⟨p,p1,p2,p3,p4⟩:=(h.el j hj).up gY;have ep:(uw A j).2.1.toNat=p:=by rw[p1];simp
   rw[ep,List.reverse_cons,aR];obtain⟨i1,i2⟩:=JQ h f p gY gY;refine⟨Ab i1 ?_,?_⟩
   ·rw[i2];show kE s (uw A p).1 (uw A j).2.2.1 (uw A j).2.2.2.1=some (uw A j).2.2.2.2.1;rw[p3,p4]
   ·rw[aP,dr,LB];exact p4
end Go.Proofs.YtjgbnaihpicpgaaGreatDoor
