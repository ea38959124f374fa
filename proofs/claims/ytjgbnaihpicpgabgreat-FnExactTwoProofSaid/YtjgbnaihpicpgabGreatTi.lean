/- A part of the proof about FnExactTwoProof (PA, XL, KG). -/
import Derived.Test.YtjgbnaihpicpgabGreatTe
import Derived.Test.YtjgbnaihpicpgabGreatTf
set_option linter.all false
namespace Go.Proofs.YtjgbnaihpicpgabGreat
open Go oq Tm
theorem kM{n:Int}(h1: -9223372036854775808<=n)(h2:n<9223372036854775808):IntKind.i64.wrap n=n:=by rw[wrap_i64 h1 h2]
theorem jb{α:Type}[Inhabited α]{xs:List α}{i:Nat}(h:i<xs.length):xs.getD i default=xs[i]:=by simp[List.getD_eq_getElem?_getD,az h]
theorem jP{α:Type}[Inhabited α]{xs:List α}{i:Nat}(h:i<xs.length):xs.getD i default∈xs:=by rw[jb h];exact bw h
theorem As{α:Type}[Inhabited α]{xs:List α}{p:α->Bool}{f:Int->Option gV}
 (h:∀(i:Nat)(x:α),i<xs.length->(i:Int)<xs.length->x∈xs->xs.getD i default=x->f i=some (if p x=true then .inl ((i:Int)+1)else .inr false)) (he:f xs.length=some (.inr true)):iL f 0=some (xs.all p):=by
 have key:∀k i:Nat,i+k=xs.length->iL f (i:Int)=some ((xs.drop i).all p):=by
  intro k;induction k with
  |zero=>
   intro i hi;obtain rfl:i=xs.length:=by omega
   rw[iK he];simp
  |succ k ih=>
   intro i hi;have hlt:i<xs.length:=by omega
   have e:=h i _ hlt iA (bw hlt) (jb hlt);rw[ay hlt,eR];cases hp:p xs[i]with
   |true=>
    rw[hp,ah rfl]at e;rw[iZ e];have:=ih (i+1) iA;rw[show((i:Int)+1)=((i+1:Nat):Int) by omega,this];simp
   |false=>
    rw[hp]at e;simp only[aq,aE]at e;rw[iK e];simp
 simpa using key xs.length 0 iA
theorem Tk{α β:Type}[Inhabited α]{xs:List α}{p:α->Bool}{f:Int->Option (Int⊕β)}{y n:β}
 (h:∀(i:Nat)(x:α),i<xs.length->(i:Int)<xs.length->x∈xs->xs.getD i default=x->f i=some (if p x=true then .inr y else .inl ((i:Int)+1))) (he:f xs.length=some (.inr n)):
 iL f 0=some (if xs.any p=true then y else n):=by
 have key:∀k i:Nat,i+k=xs.length->iL f (i:Int)=some (if(xs.drop i).any p=true then y else n):=by
  intro k;induction k with
  |zero=>
   intro i hi;obtain rfl:i=xs.length:=by omega
   rw[iK he];simp
  |succ k ih=>
   intro i hi;have hlt:i<xs.length:=by omega
   have e:=h i _ hlt iA (bw hlt) (jb hlt);rw[ay hlt,fk];cases hp:p xs[i]with
   |false=>
    rw[hp]at e;simp only[aq,aE]at e;rw[iZ e];have:=ih (i+1) iA;rw[show((i:Int)+1)=((i+1:Nat):Int) by omega,this];simp
   |true=>
    rw[hp,ah rfl]at e;rw[iK e];simp
 simpa using key xs.length 0 iA
abbrev Small{α:Type}(xs:List α):Prop:=xs.length<1099511627776
def Vn(n:Int):Bool:=decide (0<=n)&&decide (n<=3)
def kL(a:gI):Bool:=decide (1<=a.length)&&decide (a.length<=8)&&a.all Vn
theorem AA{a:gI}:kL a=true<->1<=a.length/\a.length<=8/\∀n∈a,0<=n/\n<=3:=by simp[kL,Vn,and_assoc]
theorem jT(x lo hi:Int):kF x lo hi=some (decide (lo<=x)&&decide (x<=hi)):=by
 unfold kF;by_cases h1:lo<=x<;>by_cases h2:x<=hi<;>simp[h1,h2]
theorem A2(a:gI):tZ a=some (kL a):=by
 unfold tZ;by_cases h1:(a.length:Int)<1
 ·have:¬1<=a.length:=by omega
  simp[h1,kL,this]
 ·by_cases h2:8<(a.length:Int)
  ·have:¬a.length<=8:=by omega
   simp[h1,h2,kL,this]
  ·have e1:1<=a.length:=by omega
   have e2:a.length<=8:=by omega
   simp only[h1,h2,aS,aq,aE,kL,e1,e2,aL,cq];refine As (fun i x hi hi' _ hx=>?_) (by simp[va]);have hw:IntKind.i64.wrap ((i:Int)+1)=i+1:=kM iA iA;simp only[va,hi',aL,aA,ai,hw,show(0:Int)<=i by omega,bk,Vn,hx];by_cases c1:x<0
   ·simp[c1,show ¬0<=x by omega]
   ·by_cases c2:3<x
    ·simp[c1,c2,show ¬x<=3 by omega]
    ·simp[c1,c2,show 0<=x by omega,show x<=3 by omega]
theorem A4(a:gI):uh a=some (kL a):=by
 unfold uh;simp only[jT,aa];by_cases h:1<=a.length/\a.length<=8
 ·have e1:(1:Int)<=a.length:=by omega
  have e2:(a.length:Int)<=8:=by omega
  simp only[e1,e2,aL,dZ,aA,kL,h.1,h.2,cq];refine As (fun i x hi hi' _ hx=>?_) (by simp[vf]);have hw:IntKind.i64.wrap ((i:Int)+1)=i+1:=kM iA iA;simp only[vf,hi',aL,aA,ai,hw,show(0:Int)<=i by omega,bk,Vn,hx,jT,aa];by_cases h3:0<=x<;>by_cases h4:x<=3<;>simp[h3,h4]
 ·have:(decide ((1:Int)<=a.length)&&decide ((a.length:Int)<=8))=false:=by simp;omega
  rw[this];have:kL a=false:=by
   cases hs:kL a with
   |false=>rfl
   |true=>have:=AA.1 hs;omega
  simp[this]
theorem A3{x:gI}(h0:0<x.length)(hs:Small x):pS True (ki x) fun m=>∀b,b<=m<->∀y∈x,b<=y:=by
 unfold ki;have h1:¬(x.length:Int)<1:=by omega
 have h2:(0:Int)<x.length:=by omega
 simp only[h1,h2,aS,aq,aE,ey,bk,aA];refine pS.loop (fun s:Int×Int=>∃i:Nat,s.2=(i:Int)/\1<=i/\i<=x.length/\∀b,b<=s.1<->∀y∈x.take i,b<=y) (fun s:Int×Int=>x.length-s.2.toNat) ⟨1,rfl,aC _,iA,fun b=>?_⟩ ?_
 ·cases x with
  |nil=>simp at h0
  |cons y x=>simp
 ·rintro⟨m,i'⟩ ⟨i,rfl,h3,h4,h5⟩;simp only[oz]at h5⊢;by_cases hi:i<x.length
  ·have hi':(i:Int)<x.length:=by omega
   have hw:IntKind.i64.wrap ((i:Int)+1)=i+1:=kM iA iA;simp only[hi',aL,aA,show(0:Int)<=i by omega,bk,ai,jb hi,hw];refine .some ⟨⟨i+1,by simp,iA,iA,fun b=>?_⟩,by simp;omega⟩;rw[ec,az hi];have:=h5 b;simp only[aG,Option.toList_some,aR];split
   ·constructor
    ·rintro hb y (hy|rfl)
     ·exact(h5 b).1 iA y hy
     ·exact hb
    ·intro hb;exact hb _ (.inr rfl)
   ·constructor
    ·rintro hb y (hy|rfl)
     ·exact(h5 b).1 hb y hy
     ·omega
    ·intro hb;exact(h5 b).2 fun y hy=>hb y (.inl hy)
  ·have hi':¬(i:Int)<x.length:=by omega
   simp only[hi',aS,aq,aE,aH];refine .some fun b=>?_
   rw[h5 b,bI iA]
theorem wC{a:gI}(ha:kL a=true)(x:Int):mV a x<=3:=by
 have:=(AA.1 ha).2.2;unfold mV;split
 ·omega
 ·rw[List.getD_eq_getElem?_getD];cases h:a[x.toNat]? with
  |none=>simp
  |some y=>have:=this y (bW h);simp;omega
theorem sY{a:gI}(ha:kL a=true){x:Int}(hx:x<a.length):oV a x=some (mV a x:Int):=by
 unfold oV mV;by_cases h:x<0
 ·simp[h]
 ·have h2:0<=x:=by omega
  simp only[h,aS,aq,aE,h2,hx,bk,aA];have hl:x.toNat<a.length:=by omega
  have:=(AA.1 ha).2.2 _ (jP hl);rw[show a.getD x.toNat 0=a.getD x.toNat default from rfl];rw[show((a.getD x.toNat default).toNat:Int)=a.getD x.toNat default by omega]
theorem wV{a t:gI}(ha:kL a=true)(hs:Small t){i:Nat}(hi:i<=t.length):oW a t i=
 some (match t.drop i with|[]=>(-1,(i:Int))|x::_=>if x<a.length then((mV a x:Int),(i:Int)+1)else(-1,i)):=by
 unfold oW;by_cases h:i<t.length
 ·have h1:¬(t.length:Int)<=i:=by omega
  have h2:(i:Int)<t.length:=by omega
  have hw:IntKind.i64.wrap ((i:Int)+1)=i+1:=kM iA iA;have hw2:IntKind.i64.wrap ((i:Int)+1-1)=i:=by rw[kM iA iA];omega
  rw[ay h];simp only[h1,h2,aS,aq,aE,show(0:Int)<=i by omega,bk,aA,ai,jb h,hw,hw2];by_cases h3:t[i]<a.length
  ·have h4:¬(a.length:Int)<=t[i]:=by omega
   simp[h3,h4,sY ha h3]
  ·have h4:(a.length:Int)<=t[i]:=by omega
   simp[h3,h4]
 ·have h1:(t.length:Int)<=i:=by omega
  rw[bE iA];simp[h1]
theorem IB{a t:gI}{i k:Nat}(h:i<t.length):Tm.skip a (t.drop i) (k+1)=if Iy a (t[i])then Tm.skip a (t.drop (i+1)) (k+mV a t[i])else none:=by rw[ay h,xw]
def Gq(a t:gI)(i:Nat):Int:=match Tm.skip a (t.drop i) 1 with|some r=>(t.length:Int)-r.length|none=> -1
theorem T_{a:gI}:∀{t r:gI}{k:Nat},Tm.skip a t k=some r->r.length+k<=t.length:=by
 intro t r k h;obtain⟨u,rfl,hu⟩:=CW h;have:=hu.len;simp;omega
theorem xV{a t:gI}(ha:kL a=true)(hs:Small t)(hm:∀x∈t, -24<=x){i:Nat}(hi:i<=t.length):mF a t i=some (Gq a t i):=by
 have key:pS True (lV a t i) fun r=>match Tm.skip a (t.drop i) 1 with|some q=>r=(true,(t.length:Int)-q.length)|none=>r.1=false:=by
  unfold lV;refine pS.loop (fun s=>∃(k c:Nat),s=((k:Int),(c:Int))/\c<=t.length/\k<=1+3*c/\Tm.skip a (t.drop c) k=Tm.skip a (t.drop i) 1) (fun s=>t.length-s.2.toNat) ⟨1,i,rfl,hi,iA,rfl⟩ ?_;rintro _ ⟨k,c,rfl,h1,h2,h3⟩;simp only[pO];cases k with
  |zero=>
   simp only[show ¬(0:Int)<((0:Nat):Int) by omega,aS,aq,aE,aH];refine .some ?_;simp only[Cn];rw[<-h3,vH];simp;omega
  |succ k=>
   simp only[show(0:Int)<((k+1:Nat):Int) by omega,aL,aA,wV ha hs h1,aa];by_cases hc:c<t.length
   ·rw[ay hc];rw[IB hc]at h3;simp only;have hx:=hm _ (bw hc);by_cases hlt:t[c]<a.length
    ·have ho:Iy a t[c]:=⟨hx,hlt⟩;rw[ah ho]at h3;have hle:=wC ha t[c];simp only[hlt,aA,show ¬((mV a t[c]:Nat):Int)<0 by omega,aS,aq,aE];have hw1:IntKind.i64.wrap (((k+1:Nat):Int)+(mV a t[c]:Int))=(k+1:Nat)+mV a t[c]:=kM iA iA;rw[hw1,kM iA iA];refine .some ⟨⟨k+mV a t[c],c+1,by simp;omega,iA,iA,h3⟩,by simp;omega⟩
    ·have ho:¬Iy a t[c]:=fun h=>hlt h.2
     rw[aj ho]at h3;simp only[hlt,aE,show(-1:Int)<0 by omega,aL,aA,aH];refine .some ?_;simp only[Cn];rw[<-h3];trivial
   ·rw[bE iA,K9]at h3;rw[bE iA];simp only[show(-1:Int)<0 by omega,aL,aA,aH];refine .some ?_;simp only[Cn];rw[<-h3];trivial
 unfold mF;obtain⟨r,h1,h2⟩:=key.get;rw[h1,aa];unfold Gq;cases h:Tm.skip a (t.drop i) 1 with
 |none=>rw[h]at h2;simp only at h2;simp[h2]
 |some q=>rw[h]at h2;simp only at h2;simp[h2]
def jq(a t:gI):Bool:=kL a&&(decide (1<=t.length)&&decide (t.length<=60))&&decide (Wf a 1 t)
theorem ja{a t:gI}:jq a t=true<->kL a=true/\1<=t.length/\t.length<=60/\Wf a 1 t:=by simp[jq,and_assoc]
theorem FI{a t:gI}:Gq a t 0=(t.length:Int)<->Wf a 1 t:=by
 unfold Gq Wf;rw[bN];cases h:Tm.skip a t 1 with
 |none=>
  simp only[reduceCtorEq,iff_false];try omega
 |some q=>
  simp only[aP];constructor
  ·intro h;exact bQ.1 iA
  ·rintro rfl;simp
theorem oI(a t:gI):oC a t=some (jq a t):=by
 unfold oC jq;rw[A2,aa];cases ha:kL a with
 |false=>simp
 |true=>
  simp only[aA,cq];by_cases h1:1<=t.length
  ·by_cases h2:t.length<=60
   ·have e1:(0:Int)<t.length:=by omega
    have e2:(t.length:Int)<=60:=by omega
    simp only[e1,e2,h1,h2,aL,aA,dZ,cq];obtain⟨m,h3,h4⟩:=(A3 (x:=t) iA (show t.length<_ by omega)).get;rw[h3,aa];by_cases h5: -24<=m
    ·simp only[h5,aL,aA];have:=xV ha (show t.length<_ by omega) ((h4 _).1 h5) (i:=0) iA;rw[show((0:Nat):Int)=0 by rfl]at this;rw[this,aa];by_cases hw:Wf a 1 t
     ·simp[hw,FI.2 hw]
     ·have:=mt FI.1 hw;simp[hw,this]
    ·have hw:¬Wf a 1 t:=fun hw=>h5 ((h4 _).2 fun y hy=>(hw.all y hy).1)
     simp[h5,hw]
   ·have e2:¬(t.length:Int)<=60:=by omega
    have e1:(0:Int)<t.length:=by omega
    simp[e1,e2,h2]
  ·have e1:¬(0:Int)<t.length:=by omega
   simp only[e1,h1,aS,aq,aE,Bool.false_and]
theorem zo{a:gI}(ha:kL a=true)(x:Int):rA a x=some (if Iy a x then(mV a x:Int)else -1):=by
 have hl:=(AA.1 ha).2.1;unfold rA;simp only[jT,aa,kM (n:=(a.length:Int)-1) iA iA];by_cases h1: -24<=x
 ·by_cases h2:x<= -1
  ·simp[h1,h2,Iy,mV,show x<0 by omega,show x<(a.length:Int) by omega]
  ·by_cases h3:x<a.length
   ·have hx:x.toNat<a.length:=by omega
    have:=(AA.1 ha).2.2 _ (jP hx);simp only[h1,h2,h3,Iy,show 0<=x by omega,show x<=(a.length:Int)-1 by omega,aL,aS,Bool.and_false,dZ,aq,aE,bk,aA,mV,show ¬x<0 by omega];rw[show a.getD x.toNat 0=a.getD x.toNat default from rfl];rw[show((a.getD x.toNat default).toNat:Int)=a.getD x.toNat default by omega]
   ·simp[h1,h2,h3,Iy,show ¬x<=(a.length:Int)-1 by omega]
 ·simp[h1,Iy,show ¬0<=x by omega]
theorem sH{a t:gI}(ha:kL a=true)(hs:Small t){i:Nat}(hi:i<=t.length):nK a t i=some (Gq a t i):=by
 have key:pS True (nK a t i) (·=Gq a t i):=by
  unfold nK;refine pS.loop (fun s:Int×Int=>∃(k c:Nat),s=(((k+1:Nat):Int),(c:Int))/\c<=t.length/\k<=3*c/\Tm.skip a (t.drop c) (k+1)=Tm.skip a (t.drop i) 1) (fun s:Int×Int=>t.length-s.2.toNat) ⟨0,i,rfl,hi,iA,rfl⟩ ?_;rintro _ ⟨k,c,rfl,h1,h2,h3⟩;simp only[x_];by_cases hc:c<t.length
  ·rw[IB hc]at h3;have hc':(c:Int)<t.length:=by omega
   simp only[hc',aL,aA,show(0:Int)<=c by omega,bk,ai,jb hc,zo ha,aa];have hle:=wC ha t[c];by_cases ho:Iy a t[c]
   ·rw[ah ho]at h3;simp only[ho,aA,show ¬((mV a t[c]:Nat):Int)<0 by omega,aS,aq,aE];rw[kM (n:=((k+1:Nat):Int)+(mV a t[c]:Int)) iA iA,kM (n:=((k+1:Nat):Int)+(mV a t[c]:Int)-1) iA iA,kM (n:=(c:Int)+1) iA iA];cases hk:k+mV a t[c]with
    |zero=>
     rw[hk,vH]at h3;have:(((k+1:Nat):Int)+(mV a t[c]:Int)-1==0)=true:=by simp;omega
     simp only[this,aA,aH];refine .some ?_;simp only[Cn,Gq];rw[<-h3];simp;omega
    |succ q=>
     have:¬(((k+1:Nat):Int)+(mV a t[c]:Int)-1==0)=true:=by simp;omega
     simp only[this,aE];refine .some ⟨⟨q,c+1,by simp;omega,iA,iA,by rw[<-hk];exact h3⟩,by simp;omega⟩
   ·rw[aj ho]at h3;simp only[ho,aE,show(-1:Int)<0 by omega,aL,aA,aH];refine .some ?_;simp only[Cn,Gq];rw[<-h3]
  ·have hc':¬(c:Int)<t.length:=by omega
   rw[bE iA,K9]at h3;simp only[hc',aS,aq,aE,aH];refine .some ?_;simp only[Cn,Gq];rw[<-h3]
 exact key.eq
theorem oN(a t:gI):nH a t=some (jq a t):=by
 unfold nH jq;rw[A4,aa];cases ha:kL a with
 |false=>simp
 |true=>
  simp only[aA,cq,jT,aa];have e:(decide ((1:Int)<=t.length)&&decide ((t.length:Int)<=60))=(decide (1<=t.length)&&decide (t.length<=60)):=by
   congr 1<;>exact eL.2 iA
  rw[e];by_cases h:1<=t.length/\t.length<=60
  ·simp only[h.1,h.2,aL,dZ,aA,cq];have:=sH ha (show Small t by show t.length<_;omega) (i:=0) iA;rw[show((0:Nat):Int)=0 by rfl]at this;rw[this,aa];by_cases hw:Wf a 1 t
   ·simp[hw,FI.2 hw]
   ·have:=mt FI.1 hw;simp[hw,this]
  ·have:(decide (1<=t.length)&&decide (t.length<=60))=false:=by simp;omega
   simp[this]
theorem Bh{s:gI}(hs:Small s)(v:Int):kP s v=some (decide (v∈s)):=by
 have key:pS True (jH s v) fun r=>0<=r<->v∈s:=by
  unfold jH;refine pS.loop (fun i':Int=>∃i:Nat,i'=i/\i<=s.length/\v∉s.take i) (fun i':Int=>s.length-i'.toNat) ⟨0,rfl,iA,by simp⟩ ?_;rintro _ ⟨i,rfl,h1,h2⟩;simp only[kQ];by_cases hi:i<s.length
  ·have hi':(i:Int)<s.length:=by omega
   simp only[hi',aL,aA,show(0:Int)<=i by omega,bk,ai,jb hi,kM (n:=(i:Int)+1) iA iA];by_cases hv:v=s[i]
   ·simp only[hv,cp,aA,aH];refine .some ?_;simp only[Cn];exact⟨fun _=>bw hi,fun _=>by omega⟩
   ·have:¬(v==s[i])=true:=by simpa using hv
    simp only[this,aE];refine .some ⟨⟨i+1,by simp,iA,?_⟩,by simp;omega⟩;rw[ec,az hi,aG];rintro(h|h)
    ·exact h2 h
    ·exact hv (by simpa using h)
  ·have hi':¬(i:Int)<s.length:=by omega
   simp only[hi',aS,aq,aE,aH];refine .some ?_;rw[bI iA]at h2;simp only[Cn];exact⟨fun h=>by omega,fun h=>absurd h h2⟩
 unfold kP;obtain⟨r,h1,h2⟩:=key.get;rw[h1,aa];congr 1;exact eL.2 h2
theorem A5{s:gI}(hs:Small s)(v:Int):um s v=some (decide (v∈s)):=by
 unfold um;rw[Tk (xs:=s) (p:=fun x=>x==v) (y:=true) (n:=false) (fun i x hi hi' _ hx=>?_) (by simp[vg])]
 ·congr 1;by_cases h:v∈s
  ·have:s.any (fun x=>x==v)=true:=dR.2 ⟨v,h,by simp⟩;simp[this,h]
  ·have:s.any (fun x=>x==v)=false:=by
    rw[gk];intro x hx he;have:x=v:=by simpa using he
    subst this;exact h hx
   simp[this,h]
 ·simp only[vg,hi',aL,aA,ai,show(0:Int)<=i by omega,bk,hx,kM (n:=(i:Int)+1) (by have:=hs;omega) (by have:=hs;omega)];by_cases h:(x==v)=true
  ·simp[h]
  ·simp[h]
def O5(l:gI)(x:Int):Bool:=decide (x<0->x∈l)
def zU(a:gI)(r:gI×gI):Bool:=jq a r.1&&(jq a r.2&&(decide (0<=r.1.headD 0)&&r.2.all (O5 r.1)))
def kC(s:gI×List gM):Bool:=kL s.1&&(decide (s.2.length<=12)&&s.2.all (zU s.1))
theorem GD{l:gI}(h:0<l.length):l.getD 0 default=l.headD 0:=by cases l with|nil=>simp at h|cons x l=>rfl
theorem Eb(a:gI)(r:gI×gI):uJ a r=some (zU a r):=by
 unfold uJ zU;rw[oI,oI,aa];cases h1:jq a r.1 with
 |false=>simp
 |true=>
  rw[aa];cases h2:jq a r.2 with
  |false=>simp
  |true=>
   have e1:=ja.1 h1;have e2:=ja.1 h2;have e3:(0:Int)<r.1.length:=by omega
   simp only[aA,ey,e3,bk,cq,fZ];rw[GD iA];by_cases h3:r.1.headD 0<0
   ·simp[-List.headD_eq_head?_getD,h3,show ¬0<=r.1.headD 0 by omega]
   ·simp only[h3,aS,aq,aE,show 0<=r.1.headD 0 by omega,aL,cq];refine As (fun i x hi hi' _ hx=>?_) (by simp[tY]);simp only[tY,hi',aL,aA,ai,show(0:Int)<=i by omega,bk,hx,kM (n:=(i:Int)+1) iA iA,O5,
     Bh (show Small r.1 by show r.1.length<_;omega),aa]
    by_cases h4:x<0<;>by_cases h5:x∈r.1<;>simp[h4,h5]
theorem Eg(a:gI)(r:gI×gI):uS a r=some (zU a r):=by
 unfold uS zU;rw[oN,oN,aa];cases h1:jq a r.1 with
 |false=>simp
 |true=>
  rw[aa];cases h2:jq a r.2 with
  |false=>simp
  |true=>
   have e1:=ja.1 h1;have e2:=ja.1 h2;have e3:(0:Int)<r.1.length:=by omega
   simp only[aA,ey,e3,bk,cq,fZ];rw[GD iA];by_cases h3:r.1.headD 0<0
   ·simp[-List.headD_eq_head?_getD,h3,show ¬0<=r.1.headD 0 by omega]
   ·simp only[h3,aS,aq,aE,show 0<=r.1.headD 0 by omega,aL,cq];refine As (fun i x hi hi' _ hx=>?_) (by simp[ug]);simp only[ug,hi',aL,aA,ai,show(0:Int)<=i by omega,bk,hx,kM (n:=(i:Int)+1) iA iA,O5,
     A5 (show Small r.1 by show r.1.length<_;omega),aa]
    by_cases h4:x<0<;>by_cases h5:x∈r.1<;>simp[h4,h5]
theorem vj(s:gI×List gM):pZ s=some (kC s):=by
 unfold pZ kC;rw[A2,aa];cases h1:kL s.1 with
 |false=>simp
 |true=>
  by_cases h2:12<(s.2.length:Int)
  ·simp[h2,show ¬s.2.length<=12 by omega]
  ·simp only[aA,h2,aS,aq,aE,cq,show s.2.length<=12 by omega,aL];refine As (fun i x hi hi' _ hx=>?_) (by simp[rV]);simp only[rV,hi',aL,aA,ai,show(0:Int)<=i by omega,bk,hx,kM (n:=(i:Int)+1) iA iA,Eb,aa];cases zU s.1 x<;>simp
theorem rZ(s:gI×List gM):om s=some (kC s):=by
 unfold om kC;rw[A4,aa];cases h1:kL s.1 with
 |false=>simp
 |true=>
  by_cases h2:12<(s.2.length:Int)
  ·simp[h2,show ¬s.2.length<=12 by omega]
  ·simp only[aA,h2,aS,aq,aE,cq,show s.2.length<=12 by omega,aL];refine As (fun i x hi hi' _ hx=>?_) (by simp[r_]);simp only[r_,hi',aL,aA,ai,show(0:Int)<=i by omega,bk,hx,kM (n:=(i:Int)+1) iA iA,Eg,aa];cases zU s.1 x<;>simp
theorem SW{s t:gI}(hl:s.length=t.length):(s==t)=decide (∀i<s.length,s.getD i default=t.getD i default):=by
 have:(s==t)=decide (s=t):=by by_cases h:s=t<;>simp[h]
 rw[this];refine eL.2 ⟨fun h=>by subst h;simp,fun h=>?_⟩;refine List.ext_getElem hl fun i h1 h2=>?_
 have:=h i h1;rwa [jb h1,jb h2]at this
theorem Og{s t:gI}(hs:Small s)(hl:s.length=t.length){f:Int->Option gV}
 (h:∀i:Nat,i<s.length->f i=some (if s.getD i default=t.getD i default then .inl ((i:Int)+1)else .inr false)) (he:f s.length=some (.inr true)):iL f 0=some (s==t):=by
 have key:pS True (iL f 0) fun r=>r=decide (∀i<s.length,s.getD i default=t.getD i default):=by
  refine pS.loop (fun i':Int=>∃i:Nat,i'=i/\i<=s.length/\∀j<i,s.getD j default=t.getD j default) (fun i':Int=>s.length-i'.toNat) ⟨0,rfl,iA,iA⟩ ?_;rintro _ ⟨i,rfl,h1,h2⟩;by_cases hi:i<s.length
  ·rw[h i hi];by_cases e:s.getD i default=t.getD i default
   ·rw[ah e];refine .some ⟨⟨i+1,by simp,iA,fun j hj=>?_⟩,by simp;omega⟩;rcases cO j i with h3|h3
    ·exact h2 j h3
    ·obtain rfl:j=i:=by omega
     exact e
   ·rw[aj e];refine .some ?_;simp only[Cn];exact(en fun h=>e (h i hi)).symm
  ·obtain rfl:i=s.length:=by omega
   rw[he];refine .some ?_;simp only[Cn];exact(fc h2).symm
 rw[SW hl];obtain⟨r,h1,h2⟩:=key.get;rw[h1,h2]
theorem qi{s t:gI}(hs:Small s):jG s t=some (s==t):=by
 unfold jG;by_cases hl:s.length=t.length
 ·have:¬((s.length:Int) != (t.length:Int))=true:=by simp;omega
  rw[aj this];refine Og hs hl (fun i hi=>?_) (by simp[lJ]);simp only[lJ,show(i:Int)<s.length by omega,show(i:Int)<t.length by omega,aL,aA,show(0:Int)<=i by omega,bk,ai,
   kM (n:=(i:Int)+1) (by have:=hs;omega) (by have:=hs;omega)]
  by_cases e:s.getD i default=t.getD i default
  ·simp only[e,dJ,aq,aE,aA]
  ·have:(s.getD i default != t.getD i default)=true:=by simpa using e
   simp only[this,e,aA,aE,aH]
 ·have:((s.length:Int) != (t.length:Int))=true:=by simp;omega
  rw[ah this];congr 1;symm;rw[bV];rintro rfl;exact hl rfl
theorem pg{s t:gI}(hs:Small s):lT s t=some (s==t):=by
 unfold lT;by_cases hl:s.length=t.length
 ·have:¬((s.length:Int) != (t.length:Int))=true:=by simp;omega
  rw[aj this];refine Og hs hl (fun i hi=>?_) (by simp[rY]);simp only[rY,show(i:Int)<s.length by omega,show(i:Int)<t.length by omega,aL,aA,show(0:Int)<=i by omega,bk,ai,
   kM (n:=(i:Int)+1) (by have:=hs;omega) (by have:=hs;omega)]
  by_cases e:s.getD i default=t.getD i default
  ·simp only[e,dJ,aq,aE,aA]
  ·have:(s.getD i default != t.getD i default)=true:=by simpa using e
   simp only[this,e,aA,aE,aH]
 ·have:((s.length:Int) != (t.length:Int))=true:=by simp;omega
  rw[ah this];congr 1;symm;rw[bV];rintro rfl;exact hl rfl
theorem jI{l:gI}(hs:Small l):jQ l=some l:=by unfold jQ;rw[ah (by have:=hs;omega)]
theorem mK{l:gI}(hs:Small l):jr l=some l:=by
 unfold jr;refine(pS.UI (t:=True) (P:=(·=l)) ?_ fun h=>?_).eq
 ·rw[ah (by have:=hs;omega)];exact .some rfl
 ·subst h;simp
theorem Aj{a t u r:gI}{i:Nat}(h:t.drop i=u++r)(hu:Wf a 1 u):Gq a t i=(t.length:Int)-r.length:=by unfold Gq;rw[h,hu.skip]
theorem BX{t u r:gI}{i:Nat}(h:t.drop i=u++r)(hi:i<=t.length):(t.take (t.length-r.length)).drop i=u:=by
 have hl:=bP List.length h;simp at hl;rw[List.drop_take,h,cY iA,bI iA]
theorem vc{a t u r:gI}(ha:kL a=true)(hs:Small t)(hm:∀x∈t, -24<=x){i:Nat}(h:t.drop i=u++r)(hu:Wf a 1 u):kX a t i=some u:=by
 have hl:=bP List.length h;have hul:=hu.len;simp at hl;have hi:i<=t.length:=by omega
 unfold kX;rw[xV ha hs hm hi,aa,Aj h hu,ah iA,show((t.length:Int)-r.length).toNat=t.length-r.length by omega,ai,BX h hi]
theorem ya{a t u r:gI}(ha:kL a=true)(hs:Small t){i:Nat}(h:t.drop i=u++r)(hu:Wf a 1 u):sd a t i=some u:=by
 have hl:=bP List.length h;have hul:=hu.len;simp at hl;have hi:i<=t.length:=by omega
 unfold sd;rw[sH ha hs hi,aa,Aj h hu,ah iA,show((t.length:Int)-r.length).toNat=t.length-r.length by omega,ai,BX h hi,
  jI (by show u.length<_;have:=hs;omega)]
 rfl
def PS(o:Option Bd)(r:Bd×Bool):Prop:=match o with|some b=>r=(b,true)|none=>r.2=false
structure XY(a p t:gI)(b0 b:Bd)(i c:Nat):Prop where
 hi:i<=p.length
 hc:c<=t.length
 hb:b.length=24
 E7:∀u∈b,u.length<=60
 k:∃k,Wf a k (p.drop i)/\Wf a k (t.drop c)
 m:yE a (p.drop i) (t.drop c) b=yE a p t b0
theorem XY.var{a p t:gI}{b0 b:Bd}{i c:Nat}(h:XY a p t b0 b i c)(hi:i<p.length)(hn:p[i]<0):∃u r,t.drop c=u++r/\Wf a 1 u/\c+u.length<=t.length/\Iy a p[i]/\
 yE a p t b0=(if k_ b p[i]=[]then yE a (p.drop (i+1)) (t.drop (c+u.length)) (iS b p[i] u)else if k_ b p[i]=u then yE a (p.drop (i+1)) (t.drop (c+u.length)) b else none)/\
 ∃k,Wf a k (p.drop (i+1))/\Wf a k (t.drop (c+u.length)):=by
 obtain⟨k,h1,h2⟩:=h.k;rw[ay hi]at h1;cases k with
 |zero=>have:=h1.zero;cases this
 |succ k=>
  obtain⟨ho,h1⟩:=Wf.jS.1 h1;rw[show k+1=1+k by omega]at h2;obtain⟨u,r,e,hu,hr⟩:=h2.split;have hr':t.drop (c+u.length)=r:=by rw[<-List.drop_drop,e,bS]
  have hl:=bP List.length e;simp at hl;have:=hu.len;refine⟨u,r,e,hu,iA,ho,?_,k,?_,by rw[hr'];exact hr⟩
  ·rw[<-h.m,ay hi,e,Jc hn hu,hr']
  ·have ha:mV a p[i]=0:=by simp[mV,hn]
   rwa [ha,dh]at h1
theorem XY.sym{a p t:gI}{b0 b:Bd}{i c:Nat}(h:XY a p t b0 b i c)(hi:i<p.length)(hn:¬p[i]<0):∃hc:c<t.length,Iy a p[i]/\yE a p t b0=(if t[c]=p[i]then yE a (p.drop (i+1)) (t.drop (c+1)) b else none)/\
 (t[c]=p[i]->∃k,Wf a k (p.drop (i+1))/\Wf a k (t.drop (c+1))):=by
 obtain⟨k,h1,h2⟩:=h.k;rw[ay hi]at h1;cases k with
 |zero=>have:=h1.zero;cases this
 |succ k=>
  obtain⟨ho,h1⟩:=Wf.jS.1 h1;have hc:c<t.length:=by
   rcases cO c t.length with h|h
   ·exact h
   ·rw[bE h]at h2;have:=h2.len;simp at this
  rw[ay hc]at h2;obtain⟨ho',h2⟩:=Wf.jS.1 h2;refine⟨hc,ho,?_,fun e=>⟨k+mV a p[i],h1,by rw[<-e];exact h2⟩⟩;rw[<-h.m,ay hi,ay hc,DE hn]
theorem XY.X1{a p t:gI}{b0 b:Bd}{i c:Nat}(h:XY a p t b0 b i c)(hi:i<p.length):c<t.length:=by
 obtain⟨k,h1,h2⟩:=h.k;rw[ay hi]at h1;cases k with
 |zero=>have:=h1.zero;cases this
 |succ k=>
  rcases cO c t.length with h|h
  ·exact h
  ·rw[bE h]at h2;have:=h2.len;simp at this
theorem CK{b:Bd}{n:Int}{u:gI}(hs:∀u∈b,u.length<=60)(hu:u.length<=60):∀v∈iS b n u,v.length<=60:=fun v hv=>by
 rcases List.mem_or_eq_of_mem_set hv with h|h
 ·exact hs v h
 ·subst h;exact hu
theorem CJ{b:Bd}{n:Int}(hs:∀u∈b,u.length<=60):(k_ b n).length<=60:=by
 unfold k_;rw[List.getD_eq_getElem?_getD];cases h:b[(-1-n).toNat]? with
 |none=>simp
 |some u=>exact hs u (bW h)
theorem Ck{a p t:gI}{b0:Bd}(ha:kL a=true)(hp:Wf a 1 p)(ht:Wf a 1 t)(hpl:p.length<=60)(htl:t.length<=60)(hb:b0.length=24)(hbs:∀u∈b0,u.length<=60):
 pS True (qU a p t b0) (fun r=>PS (yE a p t b0) r/\r.1.length=24):=by
 unfold qU;refine pS.loop (fun s:Int×Int×Bd=>∃i c:Nat,s.1=(c:Int)/\s.2.1=(i:Int)/\XY a p t b0 s.2.2 i c) (fun s:Int×Int×Bd=>p.length-s.2.1.toNat)
  ⟨0,0,rfl,rfl,iA,iA,hb,hbs,⟨1,by simpa using hp,by simpa using ht⟩,by simp⟩ ?_
 rintro⟨_,_,b⟩ ⟨i,c,rfl,rfl,h⟩;simp only at h;have hb:=h.hb;simp only[uA];by_cases hi:i<p.length
 ·have hc:=h.X1 hi;simp only[show(i:Int)<p.length by omega,show ¬(t.length:Int)<=c by omega,aL,aS,aA,show(0:Int)<=i by omega,show(0:Int)<=c by omega,show(c:Int)<t.length by omega,bk,
   aq,aE,ai,jb hi,jb hc,kM (n:=(i:Int)+1) iA iA,kM (n:=(c:Int)+1) iA iA]
  by_cases hn:p[i]<0
  ·obtain⟨u,r,e,hu,hl,ho,hm,hk⟩:=h.var hi hn;have hul:=hu.len;have hx: -24<=p[i]:=ho.1;have hlt:(-1-p[i]).toNat<b.length:=by omega
   simp only[show ¬0<=p[i] by omega,aS,aq,aE,vc ha (show Small t by show t.length<_;omega) (fun x hx=>(ht.all x hx).1) e hu,aa,
    kM (n:= -1-p[i]) iA iA,show 0<= -1-p[i] by omega,show -1-p[i]<24 by omega,show -1-p[i]<(b.length:Int) by omega,bk,aA,hb,show((-1:Int)-p[i]<((24:Nat):Int)) by omega,
    kM (n:=(c:Int)+u.length) iA iA]
   have eg:b.getD (-1-p[i]).toNat default=k_ b p[i]:=rfl;rw[eg];by_cases h0:k_ b p[i]=[]
   ·rw[ah h0]at hm;simp only[h0,gv,aA,show 0<u.length by omega];exact .some ⟨⟨i+1,c+u.length,by simp,by simp,iA,iA,by simpa using hb,CK h.E7 iA,hk,by rw[hm];rfl⟩,by simp;omega⟩
   ·rw[aj h0]at hm;have:¬(k_ b p[i]).isEmpty=true:=by simpa using h0
    simp only[this,aE,qi (show Small (k_ b p[i]) by show List.length _<_;have:=CJ (n:=p[i]) h.E7;omega),aa];by_cases h1:k_ b p[i]=u
    ·rw[ah h1]at hm;simp only[h1,cp,aA];exact .some ⟨⟨i+1,c+u.length,by simp,by simp,iA,iA,hb,h.E7,hk,hm.symm⟩,by simp;omega⟩
    ·rw[aj h1]at hm;have:¬(k_ b p[i]==u)=true:=by simpa using h1
     simp only[this,aE,aH];refine .some ?_;simp only[Cn,PS,hm];exact⟨trivial,hb⟩
  ·obtain⟨hc',ho,hm,hk⟩:=h.sym hi hn;simp only[show 0<=p[i] by omega,aL,aA];by_cases e:t[c]=p[i]
   ·rw[ah e]at hm;simp only[e,dJ,aq,aE];exact .some ⟨⟨i+1,c+1,by simp,by simp,iA,iA,hb,h.E7,hk e,hm.symm⟩,by simp;omega⟩
   ·rw[aj e]at hm;have:(t[c] != p[i])=true:=by simpa using e
    simp only[this,aA,hb,aH];refine .some ?_;simp only[Cn,PS,hm];exact⟨trivial,hb⟩
 ·have hm:=h.m;rw[bE iA,DD]at hm;simp only[show ¬(i:Int)<p.length by omega,aS,aq,aE,hb,aA,aH];refine .some ?_;simp only[Cn,PS,<-hm];exact⟨trivial,hb⟩
def lg(s:Bd)(i:Nat):gI:=if s.getD i []=[]\/s.getD i []=[-1-(i:Int)]then []else s.getD i []
theorem Qs{s o:Bd}(h:∀i,o.getD i []=lg s i){n:Int}(hn:n<0):Tm.sig o n=Tm.sig s n:=by
 unfold Tm.sig k_;rw[h];unfold lg;rw[show -1-((-1-n).toNat:Int)=n by omega];by_cases h1:s.getD (-1-n).toNat []=[]
 ·simp only[h1,true_or,aA]
 ·by_cases h2:s.getD (-1-n).toNat []=[n]
  ·simp only[h2,or_true,aA];simp
  ·simp only[h1,h2,or_self,aE]
theorem Bz{s:Bd}{u:gI}{i:Nat}:(s++[u]).getD i []=if i<s.length then s.getD i []else if i=s.length then u else []:=by
 rw[List.getD_eq_getElem?_getD];by_cases h:i<s.length
 ·rw[ah h,aV h,List.getD_eq_getElem?_getD]
 ·rw[aj h,bJ iA];by_cases h2:i=s.length
  ·subst h2;simp
  ·rw[aj h2,bT (by simp;omega)];rfl
theorem xO{s:Bd}{i:Nat}(h:s.length<=i):s.getD i []=[]:=by rw[List.getD_eq_getElem?_getD,bT h];rfl
structure PSt(s:Bd)(o:Bd)(i:Nat):Prop where
 hi:i<=s.length
 hl:o.length<=i
 he:∀j<i,o.getD j []=lg s j
theorem Fk{s:Bd}(hl:s.length<=24)(hs:∀u∈s,u.length<=60):pS True (vR s) fun o=>o.length<=24/\∀i,o.getD i []=lg s i:=by
 unfold vR;refine pS.loop (fun q:Int×Bd=>∃i:Nat,q.1=i/\PSt s q.2 i) (fun q:Int×Bd=>s.length-q.1.toNat) ⟨0,rfl,iA,by simp,iA⟩ ?_;rintro⟨_,o⟩ ⟨i,rfl,h⟩;simp only at h;simp only[xY];by_cases hi:i<s.length
 ·have hu:=hs _ (bw hi);have hg:s.getD i []=s[i]:=jb hi;simp only[show(i:Int)<s.length by omega,aL,aA,show(0:Int)<=i by omega,bk,ai,jb hi,kM (n:=(i:Int)+1) iA iA];have skip:lg s i=[]->pS True (some (Sum.inl ((i:Int)+1,o)):Option ((Int×Bd)⊕Bd)) (Cn (fun q:Int×Bd=>∃i:Nat,q.1=i/\PSt s q.2 i) (fun q:Int×Bd=>s.length-q.1.toNat) (fun o=>o.length<=24/\∀i,o.getD i []=lg s i) (s.length-i)):=fun hp=>
   .some ⟨⟨i+1,by simp,iA,Nat.le_succ_of_le h.hl,fun j hj=>by
    rcases cO j i with h3|h3
    ·exact h.he j h3
    ·obtain rfl:j=i:=by omega
     rw[hp,xO h.hl]⟩,by simp;omega⟩
  by_cases h0:s[i]=[]
  ·simp only[h0,bH,gx,cp,aA];exact skip (by unfold lg;rw[hg,ah (.inl h0)])
  ·have hne:¬(((s[i]).length:Int)==0)=true:=by
    have:=cw.2 h0;simp only[bC];omega
   simp only[hne,aE,ve,aa,kM (n:= -1-(i:Int)) iA iA,qi (show Small s[i] by show List.length _<_;omega)];by_cases h1:s[i]=[-1-(i:Int)]
   ·simp only[h1,cp,aA];exact skip (by unfold lg;rw[hg,ah (.inr h1)])
   ·have:¬(s[i]==[-1-(i:Int)])=true:=by simpa using h1
    simp only[this,aE];have hp:lg s i=s[i]:=by unfold lg;rw[hg,aj (by simp[h0,h1])]
    refine pS.loop (fun o':Bd=>o'.length<=i/\∀j<i,o'.getD j []=lg s j) (fun o':Bd=>i-o'.length) ⟨h.hl,h.he⟩ ?_;rintro o' ⟨h3,h4⟩;simp only[xZ];by_cases h5:o'.length<i
    ·simp only[show(o'.length:Int)<i by omega,aL,aA,show(o'.length+1)*24<=140737488355328 by omega];refine .some ⟨⟨by simp;omega,fun j hj=>?_⟩,by simp;omega⟩;rw[Bz];split
     ·exact h4 j hj
     ·have:=h4 j hj;rw[xO iA]at this;simp[<-this]
    ·simp only[show ¬(o'.length:Int)<i by omega,aS,aq,aE,show(o'.length+1)*24<=140737488355328 by omega,aA];rw[ai,jb hi,mK (show Small s[i] by show List.length _<_;omega),aa,aH];refine .some ?_;refine⟨⟨i+1,by simp[kM (n:=(i:Int)+1) iA iA],iA,by simp;omega,fun j hj=>?_⟩,by simp[kM (n:=(i:Int)+1) iA iA];omega⟩;rw[Bz];split
     ·exact h4 j iA
     ·obtain rfl:j=i:=by omega
      rw[ah iA,hp]
 ·simp only[show ¬(i:Int)<s.length by omega,aS,aq,aE,aH];refine .some ⟨by have:=h.hl;have:=h.hi;omega,fun j=>?_⟩;by_cases hj:j<i
  ·exact h.he j hj
  ·rw[xO (by have:=h.hl;omega)];unfold lg;rw[xO (s:=s) iA];simp
def vK(o:Option Bd)(r:Bd×Bool):Prop:=match o with
 |some b=>r.2=true/\r.1.length<=24/\∀i,r.1.getD i []=lg b i
 |none=>r.2=false
theorem yJ{a:gI}:∀{p t:gI}{b b':Bd},yE a p t b=some b'->(∀u∈b,u.length<=60)->t.length<=60->b.length=24->b'.length=24/\∀u∈b',u.length<=60
 |[],t,b,b',h,hs,_,hb=>by rw[DD]at h;cases h;exact⟨hb,hs⟩
 |n::p,t,b,b',h,hs,ht,hb=>by
  unfold yE at h;split at h
  ·split at h
   ·cases h
   ·rename_i r hr;have:=T_ hr;simp only at h;split at h
    ·exact yJ (b:=Tm.iS b n _) h (CK hs (by simp;omega)) iA (by simpa[Tm.iS]using hb)
    ·split at h
     ·exact yJ h hs iA hb
     ·cases h
  ·split at h
   ·cases h
   ·split at h
    ·exact yJ h hs (by simp at ht;omega) hb
    ·cases h
theorem vb{a p t:gI}(ha:kL a=true)(hp:Wf a 1 p)(ht:Wf a 1 t)(hpl:p.length<=60)(htl:t.length<=60):pS True (uc a p t) (vK (yE a p t kr)):=by
 unfold uc;have hn:∀u∈kr,u.length<=60:=by intro u hu;simp[kr]at hu;subst hu;simp
 obtain⟨r,h1,h2,h3⟩:=(Ck ha hp ht hpl htl (b0:=kr) (by simp[kr]) hn).get;rw[show(List.replicate 24 []:Bd)=kr from rfl,h1,aa,ah h3];cases hm:yE a p t kr with
 |none=>
  rw[hm]at h2;simp only[PS]at h2;simp only[h2,aq,aE];exact .some rfl
 |some b=>
  rw[hm]at h2;simp only[PS]at h2;subst h2;obtain⟨h4,h5⟩:=yJ hm hn htl (by simp[kr]);simp only[aA,h4,pN,aa];refine pS.bind (Fk iA h5) fun o ho=>.some ⟨rfl,ho.1,ho.2⟩
theorem zu{s:Bd}(hs:∀u∈s,u.length<=60)(hl:s.length<=24){i:Nat}(hi:i<=24):rF s i=some (if s.getD i []=[]then [-1-(i:Int)]else s.getD i []):=by
 unfold rF;rw[kM (n:= -1-(i:Int)) iA iA];by_cases h:i<s.length
 ·have hu:=hs _ (bw h);have hg:s.getD i []=s[i]:=jb h;simp only[show(i:Int)<s.length by omega,aL,aA,show(0:Int)<=i by omega,bk,ai,jb h,hg];by_cases h0:s[i]=[]
  ·simp[h0]
  ·have:=cw.2 h0;simp only[h0,aE,show(0:Int)<s[i].length by omega,aL,aA,jI (show Small s[i] by show List.length _<_;omega),aa]
 ·simp only[show ¬(i:Int)<s.length by omega,aS,aq,aE,xO (s:=s) (i:=i) iA,aA]
theorem De{s:Bd}(hl:s.length<=24)(hs:∀u∈s,u.length<=60):pS True (tK s) fun o=>o.length<=24/\∀i,o.getD i []=lg s i:=by
 unfold tK;refine pS.loop (fun q:Int×Bd=>∃i:Nat,q.1=i/\i<=s.length/\q.2.length=i/\∀j<i,q.2.getD j []=lg s j) (fun q:Int×Bd=>s.length-q.1.toNat) ⟨0,rfl,iA,rfl,iA⟩ ?_;rintro⟨_,o⟩ ⟨i,rfl,h1,h2,h3⟩;simp only at h2 h3;simp only[vZ];by_cases hi:i<s.length
 ·have hw:IntKind.i64.wrap ((i:Int)+1)=i+1:=kM iA iA;have hw2:IntKind.i64.wrap (-1-(i:Int))= -1-i:=kM iA iA;have hm:(o.length+1)*24<=140737488355328:=by omega
  have hg:s.getD i []=s[i]:=jb hi;have step:∀u:gI,lg s i=u->pS True (some (Sum.inl ((i:Int)+1,o++[u])):Option ((Int×Bd)⊕Bd)) (Cn (fun q:Int×Bd=>∃i:Nat,q.1=i/\i<=s.length/\q.2.length=i/\∀j<i,q.2.getD j []=lg s j) (fun q:Int×Bd=>s.length-q.1.toNat) (fun o=>o.length<=24/\∀i,o.getD i []=lg s i) (s.length-i)):=fun u hu=>
   .some ⟨⟨i+1,by simp,iA,by simp[h2],fun j hj=>by
    rw[Bz];split
    ·exact h3 j iA
    ·rw[ah iA,show j=i by omega,hu]⟩,by simp;omega⟩
  simp only[show(i:Int)<s.length by omega,aL,aA,zu hs hl (i:=i) iA,aa,hm,hw,hw2];by_cases h0:s[i]=[]
  ·simp only[hg,h0,aA,aU,fF,cp,ey,show(0:Int)<1 by omega,bk,List.getD_cons_zero];exact step [] (by unfold lg;rw[hg,ah (.inl h0)])
  ·simp only[hg,h0,aE];by_cases hlen:s[i].length=1
   ·obtain⟨x,hx⟩:=List.length_eq_one_iff.1 hlen;simp only[hx,aU,fF,cp,aA,ey,show(0:Int)<1 by omega,bk,List.getD_cons_zero];by_cases e:x= -1-(i:Int)
    ·simp only[e,cp,aA];exact step [] (by unfold lg;rw[hg,ah (.inr (by rw[hx,e]))])
    ·have:¬(x== -1-(i:Int))=true:=by simpa using e
     simp only[this,aE];exact step [x] (by unfold lg;rw[hg,hx,aj (by simp[e])])
   ·have:¬((s[i].length:Int)==1)=true:=by simp only[bC];omega
    simp only[this,aE];refine step s[i] ?_;unfold lg;rw[hg,aj];rintro(h|h)
    ·exact h0 h
    ·exact hlen (by rw[h];rfl)
 ·simp only[show ¬(i:Int)<s.length by omega,aS,aq,aE];have hall:∀j,o.getD j []=lg s j:=fun j=>by
   by_cases hj:j<i
   ·exact h3 j hj
   ·rw[xO iA];unfold lg;rw[xO (s:=s) iA];simp
  refine pS.inr ?_;simp only[Cn];refine pS.loop (fun o':Bd=>o'.length<=24/\∀j,o'.getD j []=lg s j) (fun o':Bd=>o'.length) ⟨iA,hall⟩ ?_;rintro o' ⟨h4,h5⟩;simp only[v_];by_cases h6:0<o'.length
  ·have hw:IntKind.i64.wrap ((o'.length:Int)-1)=o'.length-1:=kM iA iA;have ht:((o'.length:Int)-1).toNat=o'.length-1:=by omega
   have hlt:o'.length-1<o'.length:=by omega
   simp only[show(0:Int)<o'.length by omega,aL,aA,hw,show 0<=(o'.length:Int)-1 by omega,show(o'.length:Int)-1<o'.length by omega,show(o'.length:Int)-1<=o'.length by omega,bk,ht,jb hlt];by_cases h7:o'[o'.length-1]=[]
   ·simp only[h7,bH,gx,cp,aA];refine .some ⟨⟨by simp;omega,fun j=>?_⟩,by simp;omega⟩;rw[<-h5 j,List.getD_eq_getElem?_getD,List.getD_eq_getElem?_getD,cy];split
    ·rfl
    ·by_cases hj:j=o'.length-1
     ·subst hj;rw[az hlt,h7];rfl
     ·rw[bT iA]
   ·have:=cw.2 h7;have:¬((o'[o'.length-1].length:Int)==0)=true:=by simp only[bC];omega
    simp only[this,aE,aH];exact .some ⟨h4,h5⟩
  ·simp only[show ¬(0:Int)<o'.length by omega,aS,aq,aE,aH];exact .some ⟨h4,h5⟩
theorem zw{a p t:gI}(ha:kL a=true)(hp:Wf a 1 p)(ht:Wf a 1 t)(hpl:p.length<=60)(htl:t.length<=60):pS True (rK a p t) (vK (yE a p t kr)):=by
 have hn:∀u∈kr,u.length<=60:=by intro u hu;simp[kr]at hu;subst hu;simp
 unfold rK;rw[show(List.replicate 24 []:Bd)=kr from rfl];refine pS.loop (fun s:Int×Int×Bd=>∃i c:Nat,s.1=(c:Int)/\s.2.1=(i:Int)/\XY a p t kr s.2.2 i c) (fun s:Int×Int×Bd=>p.length-s.2.1.toNat)
  ⟨0,0,rfl,rfl,iA,iA,by simp[kr],hn,⟨1,by simpa using hp,by simpa using ht⟩,by simp⟩ ?_
 rintro⟨_,_,b⟩ ⟨i,c,rfl,rfl,h⟩;simp only at h;have hb:=h.hb;simp only[wh];by_cases hi:i<p.length
 ·have hc:=h.X1 hi;simp only[show(i:Int)<p.length by omega,show ¬(t.length:Int)<=c by omega,aL,aS,aA,show(0:Int)<=i by omega,show(0:Int)<=c by omega,show(c:Int)<t.length by omega,bk,
   aq,aE,ai,jb hi,jb hc,kM (n:=(i:Int)+1) iA iA,kM (n:=(c:Int)+1) iA iA]
  by_cases hn:p[i]<0
  ·obtain⟨u,r,e,hu,hl,ho,hm,hk⟩:=h.var hi hn;have hul:=hu.len;have hx: -24<=p[i]:=ho.1;have hlt:(-1-p[i]).toNat<b.length:=by omega
   simp only[show ¬0<=p[i] by omega,aS,aq,aE,ya ha (show Small t by show t.length<_;omega) e hu,aa,
    kM (n:= -1-p[i]) iA iA,show 0<= -1-p[i] by omega,show -1-p[i]<24 by omega,bk,aA,hb,show((-1:Int)-p[i]<((24:Nat):Int)) by omega,
    kM (n:=(c:Int)+u.length) iA iA]
   have eg:b.getD (-1-p[i]).toNat default=k_ b p[i]:=rfl;rw[eg];by_cases h0:k_ b p[i]=[]
   ·rw[ah h0]at hm;simp only[h0,bH,gx,Int.lt_irrefl,aS,aq,aE];exact .some ⟨⟨i+1,c+u.length,by simp,by simp,iA,iA,by simpa using hb,CK h.E7 iA,hk,by rw[hm];rfl⟩,by simp;omega⟩
   ·rw[aj h0]at hm;have hp0:=cw.2 h0;simp only[show(0:Int)<((k_ b p[i]).length:Int) by omega,aL,aA,pg (show Small (k_ b p[i]) by show List.length _<_;have:=CJ (n:=p[i]) h.E7;omega),aa];by_cases h1:k_ b p[i]=u
    ·rw[ah h1]at hm;simp only[h1,cp,aA];have hset:b.set (-1-p[i]).toNat u=b:=by
      have:b[(-1-p[i]).toNat]=u:=by rw[<-h1];exact(jb hlt).symm
      rw[<-this];exact List.set_getElem_self hlt
     rw[hset];exact .some ⟨⟨i+1,c+u.length,by simp,by simp,iA,iA,hb,h.E7,hk,hm.symm⟩,by simp;omega⟩
    ·rw[aj h1]at hm;have:¬(k_ b p[i]==u)=true:=by simpa using h1
     simp only[this,aE,aH];refine .some ?_;simp only[Cn,vK,hm]
  ·obtain⟨hc',ho,hm,hk⟩:=h.sym hi hn;simp only[show 0<=p[i] by omega,aL,aA];by_cases e:t[c]=p[i]
   ·rw[ah e]at hm;simp only[e,dJ,aq,aE];exact .some ⟨⟨i+1,c+1,by simp,by simp,iA,iA,hb,h.E7,hk e,hm.symm⟩,by simp;omega⟩
   ·rw[aj e]at hm;have:(p[i] != t[c])=true:=by simpa using fun h=>e h.symm
    simp only[this,aA,aH];refine .some ?_;simp only[Cn,vK,hm]
 ·have hm:=h.m;rw[bE iA,DD]at hm;simp only[show ¬(i:Int)<p.length by omega,aS,aq,aE,hb,aA];refine pS.inr ?_;refine pS.bind (De iA h.E7) fun o ho=>.some ?_
  simp only[Cn,vK,<-hm];exact⟨trivial,ho.1,ho.2⟩
theorem Hp{σ:Int->gI}{t:gI}{i:Nat}(hi:i<t.length):sub σ (t.take (i+1))=sub σ (t.take i)++(if t[i]<0 then σ t[i]else [t[i]]):=by
 rw[ec,az hi,mu];simp[sub]
theorem BW{σ:Int->gI}{t:gI}{i:Nat}:(sub σ (t.take i)).length<=(sub σ t).length:=by
 have:sub σ t=sub σ (t.take i)++sub σ (t.drop i):=by rw[<-mu,bL]
 rw[this];simp
def wF(σ:Int->gI)(t:gI):Option gI:=if(sub σ t).length<=60 then some (sub σ t)else none
def rR(o:Option gI):gI×Bool:=match o with|some x=>(x,true)|none=>([],false)
theorem Fi{s:Bd}(hl:s.length<=24){i:Nat}(hi:i<=24):oT s i=some (s.getD i []):=by
 unfold oT;by_cases h:i<s.length
 ·have hg:s.getD i []=s[i]:=jb h;simp only[show ¬(s.length:Int)<=i by omega,aS,aq,aE,show(0:Int)<=i by omega,show(i:Int)<s.length by omega,bk,aA,ai,jb h,hg];by_cases h0:s[i]=[]
  ·simp[h0]
  ·have:=cw.2 h0;have h2:¬((s[i].length:Int)==0)=true:=by simp only[bC];omega
   simp only[h2,aq,aE,this,aA]
 ·simp only[show(s.length:Int)<=i by omega,aL,aA,xO (s:=s) (i:=i) iA]
theorem Ic{σ:Int->gI}{t:gI}{i:Nat}(hi:i<t.length){out u:gI}(ho:out=sub σ (t.take i))(hu:u=if t[i]<0 then σ t[i]else [t[i]]):
 (60<(out++u).length->wF σ t=none)/\out++u=sub σ (t.take (i+1)):=by
 have e:out++u=sub σ (t.take (i+1)):=by rw[Hp hi,ho,hu]
 refine⟨fun h=>?_,e⟩;rw[e]at h;unfold wF;rw[aj];have:=BW (σ:=σ) (t:=t) (i:=i+1);omega
theorem F0{s:Bd}{t:gI}(hl:s.length<=24)(hs:∀i,(s.getD i []).length<=60)(ht:t.length<=60)(hx:∀x∈t, -24<=x):vt s t=some (rR (wF (Tm.sig s) t)):=by
 have key:pS True (vt s t) (·=rR (wF (Tm.sig s) t)):=by
  unfold vt;simp only[qL,aa,show 0<=(t.length:Int)/\8*(t.length:Int)<=281474976710656 by omega,bk,aA];refine pS.loop (fun q:gI×Int=>∃i:Nat,q.2=i/\i<=t.length/\q.1=sub (Tm.sig s) (t.take i)/\q.1.length<=60) (fun q:gI×Int=>t.length-q.2.toNat) ⟨0,rfl,iA,by simp[sub],by simp⟩ ?_;rintro⟨out,_⟩ ⟨i,rfl,h1,h2,h3⟩;simp only at h2 h3;simp only[yP];by_cases hi:i<t.length
  ·have hxi:=hx _ (bw hi);simp only[show(i:Int)<t.length by omega,aL,aA,show(0:Int)<=i by omega,bk,ai,jb hi,kM (n:=(i:Int)+1) iA iA];have fin:∀u:gI,u.length<=60->u=(if t[i]<0 then Tm.sig s t[i]else [t[i]])->pS True (if decide (60<((out++u).length:Int))=true then Option.map Sum.inr (some (([]:gI),false))else some (Sum.inl (out++u,(i:Int)+1)))
    (Cn (fun q:gI×Int=>∃i:Nat,q.2=i/\i<=t.length/\q.1=sub (Tm.sig s) (t.take i)/\q.1.length<=60) (fun q:gI×Int=>t.length-q.2.toNat) (·=rR (wF (Tm.sig s) t)) (t.length-i)):=fun u hu e=>by
    obtain⟨h4,h5⟩:=Ic hi h2 e;by_cases h6:60<(out++u).length
    ·simp only[show(60:Int)<((out++u).length:Int) by omega,aL,aA,aH];refine .some ?_;simp only[Cn,h4 h6,rR]
    ·simp only[show ¬(60:Int)<((out++u).length:Int) by omega,aS,aq,aE];exact .some ⟨⟨i+1,by simp,iA,h5,by simp only;omega⟩,by simp;omega⟩
   unfold pM;by_cases hn:t[i]<0
   ·have hi24:((-1-t[i]).toNat:Int)= -1-t[i]:=by omega
    simp only[show ¬0<=t[i] by omega,aS,aq,aE,kM (n:= -1-t[i]) iA iA];rw[<-hi24,Fi hl iA,aa,aa];have hb:s.getD (-1-t[i]).toNat []=k_ s t[i]:=rfl;rw[hb];have hbl:(k_ s t[i]).length<=60:=hs _;by_cases h0:k_ s t[i]=[]
    ·simp only[h0,gv,aA,show(out.length+1)*8<=140737488355328 by omega];exact fin [t[i]] (by simp) (by rw[ah hn];unfold Tm.sig;rw[ah h0])
    ·have:¬(k_ s t[i]).isEmpty=true:=by simpa using h0
     simp only[this,aE,show(out.length+(k_ s t[i]).length)*8<=140737488355328 by omega,aA];exact fin (k_ s t[i]) hbl (by rw[ah hn];unfold Tm.sig;rw[aj h0])
   ·simp only[show 0<=t[i] by omega,aL,aA,aa,gv,show(out.length+1)*8<=140737488355328 by omega];exact fin [t[i]] (by simp) (by rw[aj hn])
  ·simp only[show ¬(i:Int)<t.length by omega,aS,aq,aE,aH];refine .some ?_;rw[bI iA]at h2;simp only[Cn,wF,<-h2,h3,aA,rR]
 exact key.eq
theorem CG{s:Bd}{t:gI}(hl:s.length<=24)(hs:∀u∈s,u.length<=60)(ht:t.length<=60)(hx:∀x∈t, -24<=x):qb s t=some (rR (wF (Tm.sig s) t)):=by
 have key:pS True (qb s t) (·=rR (wF (Tm.sig s) t)):=by
  unfold qb;refine pS.loop (fun q:gI×Int=>∃i:Nat,q.2=i/\i<=t.length/\q.1=sub (Tm.sig s) (t.take i)/\q.1.length<=60) (fun q:gI×Int=>t.length-q.2.toNat) ⟨0,rfl,iA,by simp[sub],by simp⟩ ?_;rintro⟨out,_⟩ ⟨i,rfl,h1,h2,h3⟩;simp only at h2 h3;simp only[vk];by_cases hi:i<t.length
  ·have hxi:=hx _ (bw hi);simp only[show(i:Int)<t.length by omega,aL,aA,show(0:Int)<=i by omega,bk,ai,jb hi,kM (n:=(i:Int)+1) iA iA];have fin:∀u:gI,u.length<=60->u=(if t[i]<0 then Tm.sig s t[i]else [t[i]])->pS True (if decide (60<((out++u).length:Int))=true then Option.map Sum.inr (some (([]:gI),false))else some (Sum.inl (out++u,(i:Int)+1)))
    (Cn (fun q:gI×Int=>∃i:Nat,q.2=i/\i<=t.length/\q.1=sub (Tm.sig s) (t.take i)/\q.1.length<=60) (fun q:gI×Int=>t.length-q.2.toNat) (·=rR (wF (Tm.sig s) t)) (t.length-i)):=fun u hu e=>by
    obtain⟨h4,h5⟩:=Ic hi h2 e;by_cases h6:60<(out++u).length
    ·simp only[show(60:Int)<((out++u).length:Int) by omega,aL,aA,aH];refine .some ?_;simp only[Cn,h4 h6,rR]
    ·simp only[show ¬(60:Int)<((out++u).length:Int) by omega,aS,aq,aE];exact .some ⟨⟨i+1,by simp,iA,h5,by simp only;omega⟩,by simp;omega⟩
   by_cases hn:t[i]<0
   ·have hi24:((-1-t[i]).toNat:Int)= -1-t[i]:=by omega
    simp only[hn,aL,aA,kM (n:= -1-t[i]) iA iA];rw[<-hi24,zu hs hl iA,aa,hi24];have hb:s.getD (-1-t[i]).toNat []=k_ s t[i]:=rfl;rw[hb];have hbl:(k_ s t[i]).length<=60:=CJ hs;by_cases h0:k_ s t[i]=[]
    ·simp only[h0,aA,aU,show(out.length+1)*8<=140737488355328 by omega,show -1-(-1-t[i])=t[i] by omega];exact fin [t[i]] (by simp) (by rw[ah hn];unfold Tm.sig;rw[ah h0])
    ·simp only[h0,aE,show(out.length+(k_ s t[i]).length)*8<=140737488355328 by omega,aA];exact fin (k_ s t[i]) hbl (by rw[ah hn];unfold Tm.sig;rw[aj h0])
   ·simp only[hn,aS,aq,aE,show(out.length+1)*8<=140737488355328 by omega,aA];exact fin [t[i]] (by simp) (by rw[aj hn])
  ·simp only[show ¬(i:Int)<t.length by omega,aS,aq,aE,aH];refine .some ?_;rw[bI iA]at h2;simp only[Cn,wF,<-h2,h3,aA,rR]
 exact key.eq
theorem yT{xs:List gI}(hl:xs.length<=3)(hs:∀u∈xs,u.length<=60):kz xs=some xs.flatten:=by
 have hfl:∀i,i<=xs.length->(xs.take i).flatten.length<=60*i:=fun i=>by
  induction i with
  |zero=>simp
  |succ i ih=>
   intro hi;have h1:i<xs.length:=by omega
   rw[ec,az h1,dO,ak];have:=ih iA;have:=hs _ (bw h1);simp only[Option.toList_some,cg,gw,aT];omega
 have tk:∀i (h1:i<xs.length),(xs.take (i+1)).flatten=(xs.take i).flatten++xs[i]:=fun i h1=>by rw[ec,az h1,dO];simp
 have key:pS True (kz xs) (·=xs.flatten):=by
  unfold kz;refine pS.loop (fun q:Int×Int=>∃i:Nat,q.2=i/\i<=xs.length/\q.1=((xs.take i).flatten.length:Int)) (fun q:Int×Int=>xs.length-q.2.toNat) ⟨0,rfl,iA,by simp⟩ ?_;rintro⟨_,_⟩ ⟨i,rfl,h1,rfl⟩;simp only[nr];have hb:=hfl i h1;by_cases hi:i<xs.length
  ·have hu:=hs _ (bw hi);simp only[show(i:Int)<xs.length by omega,aL,aA,show(0:Int)<=i by omega,bk,ai,jb hi,kM (n:=(i:Int)+1) iA iA,
    kM (n:=((xs.take i).flatten.length:Int)+(xs[i].length:Int)) iA iA,show ¬((xs.take i).flatten.length:Int)+(xs[i].length:Int)<0 by omega,aS,aq,aE]
   exact .some ⟨⟨i+1,by simp,iA,by rw[tk i hi];simp⟩,by simp;omega⟩
  ·simp only[show ¬(i:Int)<xs.length by omega,aS,aq,aE,pW,show 0<=((xs.take i).flatten.length:Int)/\((xs.take i).flatten.length:Int)*8<=140737488355328 by omega,bk,aA,aa];refine pS.inr ?_;simp only[Cn];refine pS.loop (fun q:gI×Int=>∃i:Nat,q.2=i/\i<=xs.length/\q.1=(xs.take i).flatten) (fun q:gI×Int=>xs.length-q.2.toNat) ⟨0,rfl,iA,by simp⟩ ?_;rintro⟨_,_⟩ ⟨j,rfl,h2,rfl⟩;simp only[nu];have hb:=hfl j h2;by_cases hj:j<xs.length
   ·have hu:=hs _ (bw hj);simp only[show(j:Int)<xs.length by omega,aL,aA,show(0:Int)<=j by omega,bk,ai,jb hj,kM (n:=(j:Int)+1) iA iA,
     show((xs.take j).flatten.length+xs[j].length)*8<=140737488355328 by omega]
    exact .some ⟨⟨j+1,by simp,iA,by rw[tk j hj]⟩,by simp;omega⟩
   ·simp only[show ¬(j:Int)<xs.length by omega,aS,aq,aE,aH];refine .some ?_;simp only[Cn];rw[bI iA]
 exact key.eq
def Qv(a t:gI)(i:Nat)(v:gI):Option gI:=if(KY a t i v).length<=60 then some (KY a t i v)else none
theorem HA{a p u s v:gI}(ha:kL a=true)(hu:Wf a 1 u)(hm:∀x∈p++(u++s), -24<=x)(hl:(p++(u++s)).length<=60)(hv:v.length<=60):
 tA a (p++(u++s)) (p.length:Int) v=some (rR (Qv a (p++(u++s)) p.length v)):=by
 have hd:(p++(u++s)).drop p.length=u++s:=bS;have hl':=hl;simp only[ak]at hl';unfold tA;rw[ah (by simp only[ak];omega),xV ha (by show List.length _<_;omega) hm (by simp),aa,Aj hd hu];have e1:((p++(u++s)).length:Int)-s.length=((p.length+u.length:Nat):Int):=by simp;omega
 rw[e1,ah (by simp;omega),ai,ai,ef,<-List.drop_drop,hd,bS];rw[yT (by simp) (by intro w hw;simp at hw;rcases hw with rfl|rfl|rfl<;>omega),aa];unfold Qv;rw[DS hu];have e2:[p,v,s].flatten=p++(v++s):=by simp
 rw[e2];by_cases h:(p++(v++s)).length<=60
 ·simp only[show ¬(60:Int)<((p++(v++s)).length:Int) by omega,aS,aq,aE,h,aA,rR]
 ·simp only[show(60:Int)<((p++(v++s)).length:Int) by omega,aL,aA,h,aE,rR]
theorem Fq{a p u s v:gI}(ha:kL a=true)(hu:Wf a 1 u)(hl:(p++(u++s)).length<=60)(hv:v.length<=60):
 we a (p++(u++s)) (p.length:Int) v=some (rR (Qv a (p++(u++s)) p.length v)):=by
 have hd:(p++(u++s)).drop p.length=u++s:=bS;have hl':=hl;simp only[ak]at hl';unfold we;rw[ah (by simp only[ak];omega),ai,ef,jI (by show List.length _<_;omega),aa,ah iA,sH ha (by show List.length _<_;omega) (by simp),aa,Aj hd hu];have e1:((p++(u++s)).length:Int)-s.length=((p.length+u.length:Nat):Int):=by simp;omega
 rw[e1,ah (by simp;omega),ai,<-List.drop_drop,hd,bS,ah (by simp;omega),aF];unfold Qv;rw[DS hu];by_cases h:(p++(v++s)).length<=60
 ·simp only[show ¬(60:Int)<((p++(v++s)).length:Int) by omega,aS,aq,aE,h,aA,rR]
 ·simp only[show(60:Int)<((p++(v++s)).length:Int) by omega,aL,aA,h,aE,rR]
abbrev Sys:=gI×List gM
theorem mj{s:Sys}:kC s=true<->kL s.1=true/\s.2.length<=12/\∀r∈s.2,zU s.1 r=true:=by simp[kC]
theorem lX{a:gI}{r:gI×gI}:zU a r=true<->jq a r.1=true/\jq a r.2=true/\0<=r.1.headD 0/\∀x∈r.2,x<0->x∈r.1:=by simp only[zU,O5,bh,au,cM]
def ux(s:Sys)(t:gI)(i rule:Nat):Option gI:=Hl s.1 (s.2.getD rule default).1 (s.2.getD rule default).2 t i
theorem E_{b o:Bd}(hb:∀u∈b,u.length<=60)(h:∀i,o.getD i []=lg b i):(∀i,(o.getD i []).length<=60)/\∀u∈o,u.length<=60:=by
 have h1:∀i,(o.getD i []).length<=60:=fun i=>by
  rw[h];unfold lg;split
  ·simp
  ·rw[List.getD_eq_getElem?_getD];cases hx:b[i]? with
   |none=>simp
   |some u=>exact hb u (bW hx)
 refine⟨h1,fun u hu=>?_⟩;obtain⟨i,hi,rfl⟩:=fL hu;have:=h1 i;rwa [show o.getD i []=o[i]from jb hi]at this
theorem Gs{b o:Bd}(h:∀i,o.getD i []=lg b i)(t:gI):wF (Tm.sig o) t=wF (Tm.sig b) t:=by
 unfold wF;rw[sub_congr fun x _ hx=>Qs h hx]
theorem Lg{a l r p u s:gI}(hu:Wf a 1 u):Hl a l r (p++(u++s)) p.length=(yE a l u kr).bind fun b=>(wF (Tm.sig b) r).bind fun v=>Qv a (p++(u++s)) p.length v:=by
 unfold Hl;rw[Bm hu];congr 1;funext b;unfold wF Qv;by_cases h1:(sub (Tm.sig b) r).length<=60
 ·rw[ah h1,aa];by_cases h2:(KY a (p++(u++s)) p.length (sub (Tm.sig b) r)).length<=60
  ·rw[ah ⟨h1,h2⟩,ah h2]
  ·rw[aj (fun h=>h2 h.2),aj h2]
 ·rw[aj (fun h=>h1 h.1),aj h1];rfl
theorem Bg{s:Sys}{t:gI}{i rule:Nat}(hs:kC s=true)(ht:jq s.1 t=true)(hi:i<t.length)(hr:rule<s.2.length):vu s t i rule=some (rR (ux s t i rule)):=by
 obtain⟨ha,_,hrs⟩:=mj.1 hs;obtain⟨_,h1,h2,hw⟩:=ja.1 ht;obtain⟨p,u,q,rfl,rfl,hu⟩:=hw.place hi;have hrule:=lX.1 (hrs _ (jP hr));obtain⟨hL,hR,_,hv⟩:=hrule;obtain⟨_,hL1,hL2,hL3⟩:=ja.1 hL;obtain⟨_,hR1,hR2,hR3⟩:=ja.1 hR;have hm:∀x∈p++(u++q), -24<=x:=fun x hx=>(hw.all x hx).1
 have hul:u.length<=60:=by simp at h2;omega
 unfold vu ux;rw[ah iA,vc ha (by show List.length _<_;omega) hm bS hu,aa,ai];obtain⟨o,e1,e2⟩:=(vb ha hL3 hu hL2 hul).get;rw[e1,aa,Lg hu];cases hmat:yE s.1 (s.2.getD rule default).1 u kr with
 |none=>
  rw[hmat]at e2;simp only[vK]at e2;simp only[e2,aq,aE,gq,rR]
 |some b=>
  rw[hmat]at e2;obtain⟨e3,e4,e5⟩:=e2;obtain⟨hb1,hb2⟩:=yJ hmat (by intro u hu;simp[kr]at hu;subst hu;simp) hul (by simp[kr]);obtain⟨hp1,hp2⟩:=E_ hb2 e5;rw[ah e3,ah iA,F0 e4 hp1 hR2 (fun x hx=>(hR3.all x hx).1),aa,aa,Gs e5];cases hf:wF (Tm.sig b) (s.2.getD rule default).2 with
  |none=>simp[rR]
  |some v=>
   have hv60:v.length<=60:=by
    unfold wF at hf;split at hf
    ·rename_i h;cases hf;exact h
    ·cases hf
   simp only[rR,aA,aa];rw[HA ha hu hm h2 hv60];rfl
theorem z_{s:Sys}{t:gI}{i rule:Nat}(hs:kC s=true)(ht:jq s.1 t=true)(hi:i<t.length)(hr:rule<s.2.length):sU s t i rule=some (rR (ux s t i rule)):=by
 obtain⟨ha,_,hrs⟩:=mj.1 hs;obtain⟨_,h1,h2,hw⟩:=ja.1 ht;obtain⟨p,u,q,rfl,rfl,hu⟩:=hw.place hi;have hrule:=lX.1 (hrs _ (jP hr));obtain⟨hL,hR,_,hv⟩:=hrule;obtain⟨_,hL1,hL2,hL3⟩:=ja.1 hL;obtain⟨_,hR1,hR2,hR3⟩:=ja.1 hR;have hul:u.length<=60:=by simp at h2;omega
 unfold sU ux;rw[ah iA,ya ha (by show List.length _<_;omega) bS hu,aa,ai];obtain⟨o,e1,e2⟩:=(zw ha hL3 hu hL2 hul).get;rw[e1,aa,Lg hu];cases hmat:yE s.1 (s.2.getD rule default).1 u kr with
 |none=>
  rw[hmat]at e2;simp only[vK]at e2;simp only[e2,aq,aE,gq,rR]
 |some b=>
  rw[hmat]at e2;obtain⟨e3,e4,e5⟩:=e2;obtain⟨hb1,hb2⟩:=yJ hmat (by intro u hu;simp[kr]at hu;subst hu;simp) hul (by simp[kr]);obtain⟨hp1,hp2⟩:=E_ hb2 e5;rw[ah e3,CG e4 hp2 hR2 (fun x hx=>(hR3.all x hx).1),aa,aa,Gs e5];cases hf:wF (Tm.sig b) (s.2.getD rule default).2 with
  |none=>simp[rR]
  |some v=>
   have hv60:v.length<=60:=by
    unfold wF at hf;split at hf
    ·rename_i h;cases hf;exact h
    ·cases hf
   simp only[rR,aA,aa];rw[Fq ha hu h2 hv60];rfl
def mq(s:Sys)(t:gI)(i rule:Int):Option gI:=
 if(kC s=true/\jq s.1 t=true)/\(0<=i/\i<t.length)/\(0<=rule/\rule<s.2.length)then ux s t i.toNat rule.toNat else none
theorem wm(s:Sys)(t:gI):mM s t=some (kC s&&jq s.1 t):=by
 unfold mM;rw[rZ,aa];cases h1:kC s with
 |false=>simp
 |true=>simp[oN]
theorem xL{s:Sys}{t u:gI}{i rule:Int}(h:mq s t i rule=some u):u.length<=60:=by
 unfold mq at h;split at h
 ·unfold ux Hl at h;obtain⟨b,_,h⟩:=av.1 h;split at h
  ·rename_i hc;cases h;exact hc.2
  ·cases h
 ·cases h
abbrev zL:=Int×Int×gI
def nX(s:Sys):gI->List zL->Bool
 |_,[]=>true
 |t,x::r=>match mq s t x.1 x.2.1 with
  |some u=>u==x.2.2&&nX s u r
  |none=>false
def D5(s:Sys)(w:gI×List zL):Bool:=kC s&&(jq s.1 w.1&&(decide (w.2.length<=60)&&nX s w.1 w.2))
theorem Q1{s:Sys}{w:gI×List zL}{f:gI×Int->Option (gT⊕Bool)}
 (h:∀(t:gI)(i:Nat)(x:zL),i<w.2.length->w.2.getD i default=x->f (t,i)=some (match mq s t x.1 x.2.1 with|some u=>if u==x.2.2 then .inl (u,(i:Int)+1)else .inr false|none=>.inr false))
 (he:∀t,f (t,w.2.length)=some (.inr true)):iL f (w.1,0)=some (nX s w.1 w.2):=by
 have key:∀(k i:Nat)(t:gI),i+k=w.2.length->iL f (t,(i:Int))=some (nX s t (w.2.drop i)):=by
  intro k;induction k with
  |zero=>
   intro i t hi;obtain rfl:i=w.2.length:=by omega
   rw[iK (he t)];simp[nX]
  |succ k ih=>
   intro i t hi;have hlt:i<w.2.length:=by omega
   have e:=h t i _ hlt (jb hlt);rw[ay hlt,nX];cases hs:mq s t (w.2[i]).1 (w.2[i]).2.1 with
   |none=>
    rw[hs]at e;rw[iK e]
   |some u=>
    rw[hs]at e;simp only at e;by_cases hu:(u==(w.2[i]).2.2)=true
    ·rw[ah hu]at e;rw[iZ e,show((i:Int)+1)=((i+1:Nat):Int) by omega,ih (i+1) u iA];simp only[hu,cq]
    ·rw[aj hu]at e;rw[iK e];simp only[Bool.not_eq_true]at hu;simp[hu]
 simpa using key w.2.length 0 w.1 iA
theorem nc{σ γ:Type}{n:Nat}(st:Nat->σ){c:γ}{f:σ->Option (σ⊕γ)}(h:∀i,i<n->f (st i)=some (.inl (st (i+1))))(he:f (st n)=some (.inr c)):iL f (st 0)=some c:=by
 have key:∀k i,i+k=n->iL f (st i)=some c:=by
  intro k;induction k with
  |zero=>
   intro i hi;obtain rfl:i=n:=by omega
   exact iK he
  |succ k ih=>intro i hi;rw[iZ (h i iA)];exact ih (i+1) iA
 exact key n 0 iA
theorem drop_cons{α:Type}[Inhabited α]{a:List α}{i:Nat}{x:α}{r:List α}(h:a.drop i=x::r):i<a.length/\a.getD i default=x/\a.drop (i+1)=r:=by
 have hlt:i<a.length:=Nat.lt_of_not_le fun hn=>by rw[bE hn]at h;cases h
 rw[ay hlt]at h;simp only[bY]at h;exact⟨hlt,by rw[jb hlt,h.1],h.2⟩
theorem Oh{α β:Type}[Inhabited α]{a:List α}{z:List β}{g:α->β}(hl:z.length=a.length){f:Int×List β->Option ((Int×List β)⊕List β)}
 (h:∀(i:Nat)(out:List β),i<a.length->out.length=a.length->a.getD i default∈a->f ((i:Int),out)=some (.inl ((i:Int)+1,out.set i (g (a.getD i default)))))
 (he:∀out,f ((a.length:Int),out)=some (.inr out)):iL f (0,z)=some (a.map g):=by
 have hz:(a.take 0).map g++z.drop 0=z:=by simp
 refine Eq.trans ?_ (nc (n:=a.length) (fun i=>((i:Int),(a.take i).map g++z.drop i)) (fun i hi=>?_) ((he _).trans (by rw[cj,<-hl,eO,aT])))
 ·simp
 ·rw[h i _ hi (by simp;omega) (jP hi)];refine bP (fun x=>some (Sum.inl x)) (Prod.ext (by simp) ?_);show((a.take i).map g++z.drop i).set i _=_;rw[eI _ _ (by simp;omega)];have hm:i-((a.take i).map g).length=0:=by simp;omega
  have hzl:i<z.length:=by omega
  rw[hm,ay hzl,bG,bB hi,aQ,aF,jb hi];simp
def jW{α:Type}(g:α->Int->α×Int):List α->Int->List α×Int
 |[],k=>([],k)
 |x::r,k=>((g x k).1::(jW g r (g x k).2).1,(jW g r (g x k).2).2)
theorem BG{α:Type}{g:α->Int->α×Int}:∀{a:List α}{k:Int},(jW g a k).1.length=a.length
 |[],_=>rfl
 |x::r,k=>by simp[jW,BG (a:=r)]
theorem FK{α:Type}[Inhabited α]{a:List α}{g:α->Int->α×Int}(P:Nat->Int->Prop){k0:Int}{f:Int×Int×List α->Option ((Int×Int×List α)⊕(List α×Int))}
 (h:∀(i:Nat)(k:Int)(b:List α)(x:α),i<a.length->b.length=a.length->x∈a->b.getD i default=x->P i k->
  f (k,(i:Int),b)=some (.inl ((g x k).2,(i:Int)+1,b.set i (g x k).1))/\P (i+1) (g x k).2)
 (he:∀k b,f (k,(a.length:Int),b)=some (.inr (b,k))) (h0:P 0 k0):iL f (k0,0,a)=some (jW g a k0):=by
 have key:∀(r done:List α)(k:Int),done.length+r.length=a.length->(∀x∈r,x∈a)->P done.length k->iL f (k,(done.length:Int),done++r)=some (done++(jW g r k).1,(jW g r k).2):=by
  intro r;induction r with
  |nil=>
   intro done k hl _ _;have:done.length=a.length:=by simpa using hl
   rw[this];exact iK (by rw[he];simp[jW])
  |cons x r ih=>
   intro done k hl hr hp;simp only[aN]at hl;obtain⟨h1,h2⟩:=h done.length k (done++x::r) x iA (by simp;omega) (hr x (by simp)) (by rw[jb (by simp)];simp) hp;rw[iZ h1];have e:(done++x::r).set done.length (g x k).1=(done++[(g x k).1])++r:=by rw[eI _ _ (aC _),cN,bG];simp
   rw[e];have:=ih (done++[(g x k).1]) (g x k).2 (by simp;omega) (fun y hy=>hr y (by simp[hy])) (by simpa using h2);simp only[ak,aN,bH,bU,Int.natCast_add,fF]at this;rw[this];simp[jW]
 have:=key a [] k0 (by simp) (fun x hx=>hx) h0;simpa using this
theorem EF{α:Type}[Inhabited α]{a:List α}{g:α->Int->α×Int}(P:Nat->Int->Prop){k0:Int}{f:Int×Int->Option ie}
 (h:∀(i:Nat)(k:Int)(x:α),i<a.length->x∈a->(jW g a k0).1.getD i default=(g x k).1->P i k->
  f (k,(i:Int))=some (.inl ((g x k).2,(i:Int)+1))/\P (i+1) (g x k).2)
 (he:∀k,f (k,(a.length:Int))=some (.inr k)) (h0:P 0 k0):iL f (k0,0)=some (jW g a k0).2:=by
 have key:∀(r:List α)(i:Nat)(k:Int),i+r.length=a.length->(∀x∈r,x∈a)->(jW g a k0).1.drop i=(jW g r k).1->P i k->iL f (k,(i:Int))=some (jW g r k).2:=by
  intro r;induction r with
  |nil=>
   intro i k hl _ _ _;have:i=a.length:=by simpa using hl
   rw[this];exact iK (he _)
  |cons x r ih=>
   intro i k hl hr hd hp;simp only[aN]at hl;obtain⟨g1,g2,g3⟩:=drop_cons hd;obtain⟨h1,h2⟩:=h i k x iA (hr x (by simp)) g2 hp;rw[iZ h1,show((i:Int)+1)=((i+1:Nat):Int) by omega];exact ih (i+1) _ iA (fun y hy=>hr y (by simp[hy])) g3 h2
 have:=key a 0 k0 (by simp) (fun x hx=>hx) (by simp) h0;simpa using this
theorem Ca{α:Type}{a:List α}{f:Int->Option gV}(h:∀i:Nat,i<a.length->f (i:Int)=some (.inl ((i:Int)+1)))(he:f a.length=some (.inr true)):iL f 0=some true:=
 nc (n:=a.length) (fun i=>(i:Int)) (fun i hi=>h i hi) he
abbrev LL:=List gI
end Go.Proofs.YtjgbnaihpicpgabGreat
