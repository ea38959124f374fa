/- A part of the proof about FnExactJoinsAll (PA, XL, KG, PB, PC, U4, V4, TA, TB, TC, UI, UA, UB, VP, VQ). -/
import Derived.Test.YtjgbnaihpicpgaaGreatDoorTe
import Derived.Test.YtjgbnaihpicpgaaGreatDoorTk
import Derived.Test.YtjgbnaihpicpgaaGreatDoorTl
set_option linter.all false
namespace Go.Proofs.YtjgbnaihpicpgaaGreatDoor
open Go lY Tm
theorem lX{n:Int}(h1: -9223372036854775808<=n)(h2:n<9223372036854775808):IntKind.i64.wrap n=n:=by rw[wrap_i64 h1 h2]
theorem iy{α:Type}[Inhabited α]{xs:List α}{i:Nat}(h:i<xs.length):xs.getD i default=xs[i]:=by simp[av,az h]
theorem jP{α:Type}[Inhabited α]{xs:List α}{i:Nat}(h:i<xs.length):xs.getD i default∈xs:=by rw[iy h];exact bC h
theorem vT{α:Type}[Inhabited α]{xs:List α}{p:α->Bool}{f:Int->Option gA}
 (h:∀(i:Nat)(x:α),i<xs.length->(i:Int)<xs.length->x∈xs->xs.getD i default=x->f i=some (if p x=true then .inl ((i:Int)+1)else .inr false)) (he:f xs.length=some (.inr true)):g_ f 0=some (xs.all p):=by
 have key:∀k i:Nat,i+k=xs.length->g_ f (i:Int)=some ((xs.drop i).all p):=by
  intro k;induction k with
  |zero=>
   intro i hi;obtain rfl:i=xs.length:=by omega
   rw[ie he];simp
  |succ k ih=>
   intro i hi;have hlt:i<xs.length:=by omega
   have e:=h i _ hlt gN (bC hlt) (iy hlt);rw[aE hlt,eC];cases hp:p xs[i]with
   |true=>
    rw[hp,ah rfl]at e;rw[iB e];have:=ih (i+1) gN;rw[show((i:Int)+1)=((i+1:Nat):Int) by omega,this];simp
   |false=>
    rw[hp]at e;simp only[aj,aF]at e;rw[ie e];simp
 simpa using key xs.length 0 gN
theorem Nh{α β:Type}[Inhabited α]{xs:List α}{p:α->Bool}{f:Int->Option (Int⊕β)}{y n:β}
 (h:∀(i:Nat)(x:α),i<xs.length->(i:Int)<xs.length->x∈xs->xs.getD i default=x->f i=some (if p x=true then .inr y else .inl ((i:Int)+1))) (he:f xs.length=some (.inr n)):
 g_ f 0=some (if xs.any p=true then y else n):=by
 have key:∀k i:Nat,i+k=xs.length->g_ f (i:Int)=some (if(xs.drop i).any p=true then y else n):=by
  intro k;induction k with
  |zero=>
   intro i hi;obtain rfl:i=xs.length:=by omega
   rw[ie he];simp
  |succ k ih=>
   intro i hi;have hlt:i<xs.length:=by omega
   have e:=h i _ hlt gN (bC hlt) (iy hlt);rw[aE hlt,eU];cases hp:p xs[i]with
   |false=>
    rw[hp]at e;simp only[aj,aF]at e;rw[iB e];have:=ih (i+1) gN;rw[show((i:Int)+1)=((i+1:Nat):Int) by omega,this];simp
   |true=>
    rw[hp,ah rfl]at e;rw[ie e];simp
 simpa using key xs.length 0 gN
abbrev Small{α:Type}(xs:List α):Prop:=xs.length<1099511627776
def O3(n:Int):Bool:=decide (0<=n)&&decide (n<=3)
def jK(a:gk):Bool:=decide (1<=a.length)&&decide (a.length<=8)&&a.all O3
theorem we{a:gk}:jK a=true<->1<=a.length/\a.length<=8/\∀n∈a,0<=n/\n<=3:=by simp[jK,O3,and_assoc]
theorem kH(x lo hi:Int):ki x lo hi=some (decide (lo<=x)&&decide (x<=hi)):=by
 unfold ki;by_cases h1:lo<=x<;>by_cases h2:x<=hi<;>simp[h1,h2]
theorem wU(a:gk):qh a=some (jK a):=by
 unfold qh;by_cases h1:(a.length:Int)<1
 ·have:¬1<=a.length:=by omega
  simp[h1,jK,this]
 ·by_cases h2:8<(a.length:Int)
  ·have:¬a.length<=8:=by omega
   simp[h1,h2,jK,this]
  ·have e1:1<=a.length:=by omega
   have e2:a.length<=8:=by omega
   simp only[h1,h2,aW,aj,aF,jK,e1,e2,aR,cj];refine vT (fun i x hi hi' _ hx=>?_) (by simp[qO]);have hw:IntKind.i64.wrap ((i:Int)+1)=i+1:=lX gN gN;simp only[qO,hi',aR,aB,au,hw,show(0:Int)<=i by omega,bK,O3,hx];by_cases c1:x<0
   ·simp[c1,show ¬0<=x by omega]
   ·by_cases c2:3<x
    ·simp[c1,c2,show ¬x<=3 by omega]
    ·simp[c1,c2,show 0<=x by omega,show x<=3 by omega]
theorem wW(a:gk):qo a=some (jK a):=by
 unfold qo;simp only[kH,aa];by_cases h:1<=a.length/\a.length<=8
 ·have e1:(1:Int)<=a.length:=by omega
  have e2:(a.length:Int)<=8:=by omega
  simp only[e1,e2,aR,fB,aB,jK,h.1,h.2,cj];refine vT (fun i x hi hi' _ hx=>?_) (by simp[qR]);have hw:IntKind.i64.wrap ((i:Int)+1)=i+1:=lX gN gN;simp only[qR,hi',aR,aB,au,hw,show(0:Int)<=i by omega,bK,O3,hx,kH,aa];by_cases h3:0<=x<;>by_cases h4:x<=3<;>simp[h3,h4]
 ·have:(decide ((1:Int)<=a.length)&&decide ((a.length:Int)<=8))=false:=by simp;omega
  rw[this];have:jK a=false:=by
   cases hs:jK a with
   |false=>rfl
   |true=>have:=we.1 hs;omega
  simp[this]
theorem wV{x:gk}(h0:0<x.length)(hs:Small x):oD True (jo x) fun m=>∀b,b<=m<->∀y∈x,b<=y:=by
 unfold jo;have h1:¬(x.length:Int)<1:=by omega
 have h2:(0:Int)<x.length:=by omega
 simp only[h1,h2,aW,aj,aF,eE,bK,aB];refine oD.loop (fun s:Int×Int=>∃i:Nat,s.2=(i:Int)/\1<=i/\i<=x.length/\∀b,b<=s.1<->∀y∈x.take i,b<=y) (fun s:Int×Int=>x.length-s.2.toNat) ⟨1,rfl,aC _,gN,fun b=>?_⟩ ?_
 ·cases x with
  |nil=>simp at h0
  |cons y x=>simp
 ·rintro⟨m,i'⟩ ⟨i,rfl,h3,h4,h5⟩;simp only[mj]at h5⊢;by_cases hi:i<x.length
  ·have hi':(i:Int)<x.length:=by omega
   have hw:IntKind.i64.wrap ((i:Int)+1)=i+1:=lX gN gN;simp only[hi',aR,aB,show(0:Int)<=i by omega,bK,au,iy hi,hw];refine .some ⟨⟨i+1,by simp,gN,gN,fun b=>?_⟩,by simp;omega⟩;rw[ek,az hi];have:=h5 b;simp only[aH,Option.toList_some,aU];split
   ·constructor
    ·rintro hb y (hy|rfl)
     ·exact(h5 b).1 gN y hy
     ·exact hb
    ·intro hb;exact hb _ (.inr rfl)
   ·constructor
    ·rintro hb y (hy|rfl)
     ·exact(h5 b).1 hb y hy
     ·omega
    ·intro hb;exact(h5 b).2 fun y hy=>hb y (.inl hy)
  ·have hi':¬(i:Int)<x.length:=by omega
   simp only[hi',aW,aj,aF,aS];refine .some fun b=>?_
   rw[h5 b,bH gN]
theorem vk{a:gk}(ha:jK a=true)(x:Int):mS a x<=3:=by
 have:=(we.1 ha).2.2;unfold mS;split
 ·omega
 ·rw[av];cases h:a[x.toNat]? with
  |none=>simp
  |some y=>have:=this y (bO h);simp;omega
theorem rG{a:gk}(ha:jK a=true){x:Int}(hx:x<a.length):mI a x=some (mS a x:Int):=by
 unfold mI mS;by_cases h:x<0
 ·simp[h]
 ·have h2:0<=x:=by omega
  simp only[h,aW,aj,aF,h2,hx,bK,aB];have hl:x.toNat<a.length:=by omega
  have:=(we.1 ha).2.2 _ (jP hl);rw[show a.getD x.toNat 0=a.getD x.toNat default from rfl];rw[show((a.getD x.toNat default).toNat:Int)=a.getD x.toNat default by omega]
theorem sy{a t:gk}(ha:jK a=true)(hs:Small t){i:Nat}(hi:i<=t.length):mJ a t i=
 some (match t.drop i with|[]=>(-1,(i:Int))|x::_=>if x<a.length then((mS a x:Int),(i:Int)+1)else(-1,i)):=by
 unfold mJ;by_cases h:i<t.length
 ·have h1:¬(t.length:Int)<=i:=by omega
  have h2:(i:Int)<t.length:=by omega
  have hw:IntKind.i64.wrap ((i:Int)+1)=i+1:=lX gN gN;have hw2:IntKind.i64.wrap ((i:Int)+1-1)=i:=by rw[lX gN gN];omega
  rw[aE h];simp only[h1,h2,aW,aj,aF,show(0:Int)<=i by omega,bK,aB,au,iy h,hw,hw2];by_cases h3:t[i]<a.length
  ·have h4:¬(a.length:Int)<=t[i]:=by omega
   simp[h3,h4,rG ha h3]
  ·have h4:(a.length:Int)<=t[i]:=by omega
   simp[h3,h4]
 ·have h1:(t.length:Int)<=i:=by omega
  rw[bu gN];simp[h1]
theorem D5{a t:gk}{i k:Nat}(h:i<t.length):Tm.skip a (t.drop i) (k+1)=if EM a (t[i])then Tm.skip a (t.drop (i+1)) (k+mS a t[i])else none:=by rw[aE h,sR]
def Cd(a t:gk)(i:Nat):Int:=match Tm.skip a (t.drop i) 1 with|some r=>(t.length:Int)-r.length|none=> -1
theorem N2{a:gk}:∀{t r:gk}{k:Nat},Tm.skip a t k=some r->r.length+k<=t.length:=by
 intro t r k h;obtain⟨u,rfl,hu⟩:=zj h;have:=hu.len;simp;omega
theorem tA{a t:gk}(ha:jK a=true)(hs:Small t)(hm:∀x∈t, -24<=x){i:Nat}(hi:i<=t.length):lB a t i=some (Cd a t i):=by
 have key:oD True (j_ a t i) fun r=>match Tm.skip a (t.drop i) 1 with|some q=>r=(true,(t.length:Int)-q.length)|none=>r.1=false:=by
  unfold j_;refine oD.loop (fun s=>∃(k c:Nat),s=((k:Int),(c:Int))/\c<=t.length/\k<=1+3*c/\Tm.skip a (t.drop c) k=Tm.skip a (t.drop i) 1) (fun s=>t.length-s.2.toNat) ⟨1,i,rfl,hi,gN,rfl⟩ ?_;rintro _ ⟨k,c,rfl,h1,h2,h3⟩;simp only[m_];cases k with
  |zero=>
   simp only[show ¬(0:Int)<((0:Nat):Int) by omega,aW,aj,aF,aS];refine .some ?_;simp only[yV];rw[<-h3,ru];simp;omega
  |succ k=>
   simp only[show(0:Int)<((k+1:Nat):Int) by omega,aR,aB,sy ha hs h1,aa];by_cases hc:c<t.length
   ·rw[aE hc];rw[D5 hc]at h3;simp only;have hx:=hm _ (bC hc);by_cases hlt:t[c]<a.length
    ·have ho:EM a t[c]:=⟨hx,hlt⟩;rw[ah ho]at h3;have hle:=vk ha t[c];simp only[hlt,aB,show ¬((mS a t[c]:Nat):Int)<0 by omega,aW,aj,aF];have hw1:IntKind.i64.wrap (((k+1:Nat):Int)+(mS a t[c]:Int))=(k+1:Nat)+mS a t[c]:=lX gN gN;rw[hw1,lX gN gN];refine .some ⟨⟨k+mS a t[c],c+1,by simp;omega,gN,gN,h3⟩,by simp;omega⟩
    ·have ho:¬EM a t[c]:=fun h=>hlt h.2
     rw[ak ho]at h3;simp only[hlt,aF,show(-1:Int)<0 by omega,aR,aB,aS];refine .some ?_;simp only[yV];rw[<-h3];trivial
   ·rw[bu gN,Gw]at h3;rw[bu gN];simp only[show(-1:Int)<0 by omega,aR,aB,aS];refine .some ?_;simp only[yV];rw[<-h3];trivial
 unfold lB;obtain⟨r,h1,h2⟩:=key.get;rw[h1,aa];unfold Cd;cases h:Tm.skip a (t.drop i) 1 with
 |none=>rw[h]at h2;simp only at h2;simp[h2]
 |some q=>rw[h]at h2;simp only at h2;simp[h2]
def iX(a t:gk):Bool:=jK a&&(decide (1<=t.length)&&decide (t.length<=60))&&decide (Wf a 1 t)
theorem ig{a t:gk}:iX a t=true<->jK a=true/\1<=t.length/\t.length<=60/\Wf a 1 t:=by simp[iX,and_assoc]
theorem BB{a t:gk}:Cd a t 0=(t.length:Int)<->Wf a 1 t:=by
 unfold Cd Wf;rw[bG];cases h:Tm.skip a t 1 with
 |none=>
  simp only[reduceCtorEq,iff_false];try omega
 |some q=>
  simp only[aM];constructor
  ·intro h;exact bP.1 gN
  ·rintro rfl;simp
theorem vB(a t:gk):oY a t=some (iX a t):=by
 unfold oY iX;rw[wU,aa];cases ha:jK a with
 |false=>simp
 |true=>
  simp only[aB,cj];by_cases h1:1<=t.length
  ·by_cases h2:t.length<=60
   ·have e1:(0:Int)<t.length:=by omega
    have e2:(t.length:Int)<=60:=by omega
    simp only[e1,e2,h1,h2,aR,aB,fB,cj];obtain⟨m,h3,h4⟩:=(wV (x:=t) gN (show t.length<_ by omega)).get;rw[h3,aa];by_cases h5: -24<=m
    ·simp only[h5,aR,aB];have:=tA ha (show t.length<_ by omega) ((h4 _).1 h5) (i:=0) gN;rw[show((0:Nat):Int)=0 by rfl]at this;rw[this,aa];by_cases hw:Wf a 1 t
     ·simp[hw,BB.2 hw]
     ·have:=mt BB.1 hw;simp[hw,this]
    ·have hw:¬Wf a 1 t:=fun hw=>h5 ((h4 _).2 fun y hy=>(hw.all y hy).1)
     simp[h5,hw]
   ·have e2:¬(t.length:Int)<=60:=by omega
    have e1:(0:Int)<t.length:=by omega
    simp[e1,e2,h2]
  ·have e1:¬(0:Int)<t.length:=by omega
   simp only[e1,h1,aW,aj,aF,Bool.false_and]
theorem zo{a:gk}(ha:jK a=true)(x:Int):pV a x=some (if EM a x then(mS a x:Int)else -1):=by
 have hl:=(we.1 ha).2.1;unfold pV;simp only[kH,aa,lX (n:=(a.length:Int)-1) gN gN];by_cases h1: -24<=x
 ·by_cases h2:x<= -1
  ·simp[h1,h2,EM,mS,show x<0 by omega,show x<(a.length:Int) by omega]
  ·by_cases h3:x<a.length
   ·have hx:x.toNat<a.length:=by omega
    have:=(we.1 ha).2.2 _ (jP hx);simp only[h1,h2,h3,EM,show 0<=x by omega,show x<=(a.length:Int)-1 by omega,aR,aW,Bool.and_false,fB,aj,aF,bK,aB,mS,show ¬x<0 by omega];rw[show a.getD x.toNat 0=a.getD x.toNat default from rfl];rw[show((a.getD x.toNat default).toNat:Int)=a.getD x.toNat default by omega]
   ·simp[h1,h2,h3,EM,show ¬x<=(a.length:Int)-1 by omega]
 ·simp[h1,EM,show ¬0<=x by omega]
theorem tH{a t:gk}(ha:jK a=true)(hs:Small t){i:Nat}(hi:i<=t.length):nL a t i=some (Cd a t i):=by
 have key:oD True (nL a t i) (·=Cd a t i):=by
  unfold nL;refine oD.loop (fun s:Int×Int=>∃(k c:Nat),s=(((k+1:Nat):Int),(c:Int))/\c<=t.length/\k<=3*c/\Tm.skip a (t.drop c) (k+1)=Tm.skip a (t.drop i) 1) (fun s:Int×Int=>t.length-s.2.toNat) ⟨0,i,rfl,hi,gN,rfl⟩ ?_;rintro _ ⟨k,c,rfl,h1,h2,h3⟩;simp only[tI];by_cases hc:c<t.length
  ·rw[D5 hc]at h3;have hc':(c:Int)<t.length:=by omega
   simp only[hc',aR,aB,show(0:Int)<=c by omega,bK,au,iy hc,zo ha,aa];have hle:=vk ha t[c];by_cases ho:EM a t[c]
   ·rw[ah ho]at h3;simp only[ho,aB,show ¬((mS a t[c]:Nat):Int)<0 by omega,aW,aj,aF];rw[lX (n:=((k+1:Nat):Int)+(mS a t[c]:Int)) gN gN,lX (n:=((k+1:Nat):Int)+(mS a t[c]:Int)-1) gN gN,lX (n:=(c:Int)+1) gN gN];cases hk:k+mS a t[c]with
    |zero=>
     rw[hk,ru]at h3;have:(((k+1:Nat):Int)+(mS a t[c]:Int)-1==0)=true:=by simp;omega
     simp only[this,aB,aS];refine .some ?_;simp only[yV,Cd];rw[<-h3];simp;omega
    |succ q=>
     have:¬(((k+1:Nat):Int)+(mS a t[c]:Int)-1==0)=true:=by simp;omega
     simp only[this,aF];refine .some ⟨⟨q,c+1,by simp;omega,gN,gN,by rw[<-hk];exact h3⟩,by simp;omega⟩
   ·rw[ak ho]at h3;simp only[ho,aF,show(-1:Int)<0 by omega,aR,aB,aS];refine .some ?_;simp only[yV,Cd];rw[<-h3]
  ·have hc':¬(c:Int)<t.length:=by omega
   rw[bu gN,Gw]at h3;simp only[hc',aW,aj,aF,aS];refine .some ?_;simp only[yV,Cd];rw[<-h3]
 exact key.eq
theorem sL(a t:gk):nT a t=some (iX a t):=by
 unfold nT iX;rw[wW,aa];cases ha:jK a with
 |false=>simp
 |true=>
  simp only[aB,cj,kH,aa];have e:(decide ((1:Int)<=t.length)&&decide ((t.length:Int)<=60))=(decide (1<=t.length)&&decide (t.length<=60)):=by
   congr 1<;>exact eY.2 gN
  rw[e];by_cases h:1<=t.length/\t.length<=60
  ·simp only[h.1,h.2,aR,fB,aB,cj];have:=tH ha (show Small t by show t.length<_;omega) (i:=0) gN;rw[show((0:Nat):Int)=0 by rfl]at this;rw[this,aa];by_cases hw:Wf a 1 t
   ·simp[hw,BB.2 hw]
   ·have:=mt BB.1 hw;simp[hw,this]
  ·have:(decide (1<=t.length)&&decide (t.length<=60))=false:=by simp;omega
   simp[this]
theorem xh{s:gk}(hs:Small s)(v:Int):jA s v=some (decide (v∈s)):=by
 have key:oD True (iM s v) fun r=>0<=r<->v∈s:=by
  unfold iM;refine oD.loop (fun i':Int=>∃i:Nat,i'=i/\i<=s.length/\v∉s.take i) (fun i':Int=>s.length-i'.toNat) ⟨0,rfl,gN,by simp⟩ ?_;rintro _ ⟨i,rfl,h1,h2⟩;simp only[jB];by_cases hi:i<s.length
  ·have hi':(i:Int)<s.length:=by omega
   simp only[hi',aR,aB,show(0:Int)<=i by omega,bK,au,iy hi,lX (n:=(i:Int)+1) gN gN];by_cases hv:v=s[i]
   ·simp only[hv,cF,aB,aS];refine .some ?_;simp only[yV];exact⟨fun _=>bC hi,fun _=>by omega⟩
   ·have:¬(v==s[i])=true:=by simpa using hv
    simp only[this,aF];refine .some ⟨⟨i+1,by simp,gN,?_⟩,by simp;omega⟩;rw[ek,az hi,aH];rintro(h|h)
    ·exact h2 h
    ·exact hv (by simpa using h)
  ·have hi':¬(i:Int)<s.length:=by omega
   simp only[hi',aW,aj,aF,aS];refine .some ?_;rw[bH gN]at h2;simp only[yV];exact⟨fun h=>by omega,fun h=>absurd h h2⟩
 unfold jA;obtain⟨r,h1,h2⟩:=key.get;rw[h1,aa];congr 1;exact eY.2 h2
theorem wX{s:gk}(hs:Small s)(v:Int):qp s v=some (decide (v∈s)):=by
 unfold qp;rw[Nh (xs:=s) (p:=fun x=>x==v) (y:=true) (n:=false) (fun i x hi hi' _ hx=>?_) (by simp[qS])]
 ·congr 1;by_cases h:v∈s
  ·have:s.any (fun x=>x==v)=true:=dW.2 ⟨v,h,by simp⟩;simp[this,h]
  ·have:s.any (fun x=>x==v)=false:=by
    rw[fP];intro x hx he;have:x=v:=by simpa using he
    subst this;exact h hx
   simp[this,h]
 ·simp only[qS,hi',aR,aB,au,show(0:Int)<=i by omega,bK,hx,lX (n:=(i:Int)+1) (by have:=hs;omega) (by have:=hs;omega)];by_cases h:(x==v)=true
  ·simp[h]
  ·simp[h]
def JW(l:gk)(x:Int):Bool:=decide (x<0->x∈l)
def vu(a:gk)(r:gk×gk):Bool:=iX a r.1&&(iX a r.2&&(decide (0<=r.1.headD 0)&&r.2.all (JW r.1)))
def kB(s:gk×List gm):Bool:=jK s.1&&(decide (s.2.length<=12)&&s.2.all (vu s.1))
theorem Ct{l:gk}(h:0<l.length):l.getD 0 default=l.headD 0:=by cases l with|nil=>simp at h|cons x l=>rfl
theorem Al(a:gk)(r:gk×gk):qD a r=some (vu a r):=by
 unfold qD vu;rw[vB,vB,aa];cases h1:iX a r.1 with
 |false=>simp
 |true=>
  rw[aa];cases h2:iX a r.2 with
  |false=>simp
  |true=>
   have e1:=ig.1 h1;have e2:=ig.1 h2;have e3:(0:Int)<r.1.length:=by omega
   simp only[aB,eE,e3,bK,cj,and_true];rw[Ct gN];by_cases h3:r.1.headD 0<0
   ·simp[-List.headD_eq_head?_getD,h3,show ¬0<=r.1.headD 0 by omega]
   ·simp only[h3,aW,aj,aF,show 0<=r.1.headD 0 by omega,aR,cj];refine vT (fun i x hi hi' _ hx=>?_) (by simp[qg]);simp only[qg,hi',aR,aB,au,show(0:Int)<=i by omega,bK,hx,lX (n:=(i:Int)+1) gN gN,JW,
     xh (show Small r.1 by show r.1.length<_;omega),aa]
    by_cases h4:x<0<;>by_cases h5:x∈r.1<;>simp[h4,h5]
theorem Ap(a:gk)(r:gk×gk):qI a r=some (vu a r):=by
 unfold qI vu;rw[sL,sL,aa];cases h1:iX a r.1 with
 |false=>simp
 |true=>
  rw[aa];cases h2:iX a r.2 with
  |false=>simp
  |true=>
   have e1:=ig.1 h1;have e2:=ig.1 h2;have e3:(0:Int)<r.1.length:=by omega
   simp only[aB,eE,e3,bK,cj,and_true];rw[Ct gN];by_cases h3:r.1.headD 0<0
   ·simp[-List.headD_eq_head?_getD,h3,show ¬0<=r.1.headD 0 by omega]
   ·simp only[h3,aW,aj,aF,show 0<=r.1.headD 0 by omega,aR,cj];refine vT (fun i x hi hi' _ hx=>?_) (by simp[qn]);simp only[qn,hi',aR,aB,au,show(0:Int)<=i by omega,bK,hx,lX (n:=(i:Int)+1) gN gN,JW,
     wX (show Small r.1 by show r.1.length<_;omega),aa]
    by_cases h4:x<0<;>by_cases h5:x∈r.1<;>simp[h4,h5]
theorem yR(s:gk×List gm):oP s=some (kB s):=by
 unfold oP kB;rw[wU,aa];cases h1:jK s.1 with
 |false=>simp
 |true=>
  by_cases h2:12<(s.2.length:Int)
  ·simp[h2,show ¬s.2.length<=12 by omega]
  ·simp only[aB,h2,aW,aj,aF,cj,show s.2.length<=12 by omega,aR];refine vT (fun i x hi hi' _ hx=>?_) (by simp[oI]);simp only[oI,hi',aR,aB,au,show(0:Int)<=i by omega,bK,hx,lX (n:=(i:Int)+1) gN gN,Al,aa];cases vu s.1 x<;>simp
theorem uo(s:gk×List gm):nC s=some (kB s):=by
 unfold nC kB;rw[wW,aa];cases h1:jK s.1 with
 |false=>simp
 |true=>
  by_cases h2:12<(s.2.length:Int)
  ·simp[h2,show ¬s.2.length<=12 by omega]
  ·simp only[aB,h2,aW,aj,aF,cj,show s.2.length<=12 by omega,aR];refine vT (fun i x hi hi' _ hx=>?_) (by simp[oL]);simp only[oL,hi',aR,aB,au,show(0:Int)<=i by omega,bK,hx,lX (n:=(i:Int)+1) gN gN,Ap,aa];cases vu s.1 x<;>simp
theorem MR{s t:gk}(hl:s.length=t.length):(s==t)=decide (∀i<s.length,s.getD i default=t.getD i default):=by
 have:(s==t)=decide (s=t):=by by_cases h:s=t<;>simp[h]
 rw[this];refine eY.2 ⟨fun h=>by subst h;simp,fun h=>?_⟩;refine List.ext_getElem hl fun i h1 h2=>?_
 have:=h i h1;rwa [iy h1,iy h2]at this
theorem Jh{s t:gk}(hs:Small s)(hl:s.length=t.length){f:Int->Option gA}
 (h:∀i:Nat,i<s.length->f i=some (if s.getD i default=t.getD i default then .inl ((i:Int)+1)else .inr false)) (he:f s.length=some (.inr true)):g_ f 0=some (s==t):=by
 have key:oD True (g_ f 0) fun r=>r=decide (∀i<s.length,s.getD i default=t.getD i default):=by
  refine oD.loop (fun i':Int=>∃i:Nat,i'=i/\i<=s.length/\∀j<i,s.getD j default=t.getD j default) (fun i':Int=>s.length-i'.toNat) ⟨0,rfl,gN,gN⟩ ?_;rintro _ ⟨i,rfl,h1,h2⟩;by_cases hi:i<s.length
  ·rw[h i hi];by_cases e:s.getD i default=t.getD i default
   ·rw[ah e];refine .some ⟨⟨i+1,by simp,gN,fun j hj=>?_⟩,by simp;omega⟩;rcases cH j i with h3|h3
    ·exact h2 j h3
    ·obtain rfl:j=i:=by omega
     exact e
   ·rw[ak e];refine .some ?_;simp only[yV];exact(eI fun h=>e (h i hi)).symm
  ·obtain rfl:i=s.length:=by omega
   rw[he];refine .some ?_;simp only[yV];exact(decide_eq_true h2).symm
 rw[MR hl];obtain⟨r,h1,h2⟩:=key.get;rw[h1,h2]
theorem rN{s t:gk}(hs:Small s):jb s t=some (s==t):=by
 unfold jb;by_cases hl:s.length=t.length
 ·have:¬((s.length:Int) != (t.length:Int))=true:=by simp;omega
  rw[ak this];refine Jh hs hl (fun i hi=>?_) (by simp[jY]);simp only[jY,show(i:Int)<s.length by omega,show(i:Int)<t.length by omega,aR,aB,show(0:Int)<=i by omega,bK,au,
   lX (n:=(i:Int)+1) (by have:=hs;omega) (by have:=hs;omega)]
  by_cases e:s.getD i default=t.getD i default
  ·simp only[e,ej,aj,aF,aB]
  ·have:(s.getD i default != t.getD i default)=true:=by simpa using e
   simp only[this,e,aB,aF,aS]
 ·have:((s.length:Int) != (t.length:Int))=true:=by simp;omega
  rw[ah this];congr 1;symm;rw[bW];rintro rfl;exact hl rfl
theorem um{s t:gk}(hs:Small s):nB s t=some (s==t):=by
 unfold nB;by_cases hl:s.length=t.length
 ·have:¬((s.length:Int) != (t.length:Int))=true:=by simp;omega
  rw[ak this];refine Jh hs hl (fun i hi=>?_) (by simp[oK]);simp only[oK,show(i:Int)<s.length by omega,show(i:Int)<t.length by omega,aR,aB,show(0:Int)<=i by omega,bK,au,
   lX (n:=(i:Int)+1) (by have:=hs;omega) (by have:=hs;omega)]
  by_cases e:s.getD i default=t.getD i default
  ·simp only[e,ej,aj,aF,aB]
  ·have:(s.getD i default != t.getD i default)=true:=by simpa using e
   simp only[this,e,aB,aF,aS]
 ·have:((s.length:Int) != (t.length:Int))=true:=by simp;omega
  rw[ah this];congr 1;symm;rw[bW];rintro rfl;exact hl rfl
theorem mE{l:gk}(hs:Small l):kC l=some l:=by unfold kC;rw[ah (by have:=hs;omega)]
theorem pI{l:gk}(hs:Small l):iR l=some l:=by
 unfold iR;refine(oD.OZ (t:=True) (P:=(·=l)) ?_ fun h=>?_).eq
 ·rw[ah (by have:=hs;omega)];exact .some rfl
 ·subst h;simp
theorem zF{a t u r:gk}{i:Nat}(h:t.drop i=u++r)(hu:Wf a 1 u):Cd a t i=(t.length:Int)-r.length:=by unfold Cd;rw[h,hu.skip]
theorem ya{t u r:gk}{i:Nat}(h:t.drop i=u++r)(hi:i<=t.length):(t.take (t.length-r.length)).drop i=u:=by
 have hl:=bX List.length h;simp at hl;rw[List.drop_take,h,cO gN,bH gN]
theorem tG{a t u r:gk}(ha:jK a=true)(hs:Small t)(hm:∀x∈t, -24<=x){i:Nat}(h:t.drop i=u++r)(hu:Wf a 1 u):jH a t i=some u:=by
 have hl:=bX List.length h;have hul:=hu.len;simp at hl;have hi:i<=t.length:=by omega
 unfold jH;rw[tA ha hs hm hi,aa,zF h hu,ah gN,show((t.length:Int)-r.length).toNat=t.length-r.length by omega,au,ya h hi]
theorem wY{a t u r:gk}(ha:jK a=true)(hs:Small t){i:Nat}(h:t.drop i=u++r)(hu:Wf a 1 u):qq a t i=some u:=by
 have hl:=bX List.length h;have hul:=hu.len;simp at hl;have hi:i<=t.length:=by omega
 unfold qq;rw[tH ha hs hi,aa,zF h hu,ah gN,show((t.length:Int)-r.length).toNat=t.length-r.length by omega,au,ya h hi,
  mE (by show u.length<_;have:=hs;omega)]
 rfl
def Kr(o:Option Bd)(r:Bd×Bool):Prop:=match o with|some b=>r=(b,true)|none=>r.2=false
structure Rr(a p t:gk)(b0 b:Bd)(i c:Nat):Prop where
 hi:i<=p.length
 hc:c<=t.length
 hb:b.length=24
 Dl:∀u∈b,u.length<=60
 k:∃k,Wf a k (p.drop i)/\Wf a k (t.drop c)
 m:vV a (p.drop i) (t.drop c) b=vV a p t b0
theorem Rr.var{a p t:gk}{b0 b:Bd}{i c:Nat}(h:Rr a p t b0 b i c)(hi:i<p.length)(hn:p[i]<0):∃u r,t.drop c=u++r/\Wf a 1 u/\c+u.length<=t.length/\EM a p[i]/\
 vV a p t b0=(if jM b p[i]=[]then vV a (p.drop (i+1)) (t.drop (c+u.length)) (gY b p[i] u)else if jM b p[i]=u then vV a (p.drop (i+1)) (t.drop (c+u.length)) b else none)/\
 ∃k,Wf a k (p.drop (i+1))/\Wf a k (t.drop (c+u.length)):=by
 obtain⟨k,h1,h2⟩:=h.k;rw[aE hi]at h1;cases k with
 |zero=>have:=h1.zero;cases this
 |succ k=>
  obtain⟨ho,h1⟩:=Wf.iY.1 h1;rw[show k+1=1+k by omega]at h2;obtain⟨u,r,e,hu,hr⟩:=h2.split;have hr':t.drop (c+u.length)=r:=by rw[<-List.drop_drop,e,bY]
  have hl:=bX List.length e;simp at hl;have:=hu.len;refine⟨u,r,e,hu,gN,ho,?_,k,?_,by rw[hr'];exact hr⟩
  ·rw[<-h.m,aE hi,e,EC hn hu,hr']
  ·have ha:mS a p[i]=0:=by simp[mS,hn]
   rwa [ha,dg]at h1
theorem Rr.sym{a p t:gk}{b0 b:Bd}{i c:Nat}(h:Rr a p t b0 b i c)(hi:i<p.length)(hn:¬p[i]<0):∃hc:c<t.length,EM a p[i]/\vV a p t b0=(if t[c]=p[i]then vV a (p.drop (i+1)) (t.drop (c+1)) b else none)/\
 (t[c]=p[i]->∃k,Wf a k (p.drop (i+1))/\Wf a k (t.drop (c+1))):=by
 obtain⟨k,h1,h2⟩:=h.k;rw[aE hi]at h1;cases k with
 |zero=>have:=h1.zero;cases this
 |succ k=>
  obtain⟨ho,h1⟩:=Wf.iY.1 h1;have hc:c<t.length:=by
   rcases cH c t.length with h|h
   ·exact h
   ·rw[bu h]at h2;have:=h2.len;simp at this
  rw[aE hc]at h2;obtain⟨ho',h2⟩:=Wf.iY.1 h2;refine⟨hc,ho,?_,fun e=>⟨k+mS a p[i],h1,by rw[<-e];exact h2⟩⟩;rw[<-h.m,aE hi,aE hc,BE hn]
theorem Rr.Rw{a p t:gk}{b0 b:Bd}{i c:Nat}(h:Rr a p t b0 b i c)(hi:i<p.length):c<t.length:=by
 obtain⟨k,h1,h2⟩:=h.k;rw[aE hi]at h1;cases k with
 |zero=>have:=h1.zero;cases this
 |succ k=>
  rcases cH c t.length with h|h
  ·exact h
  ·rw[bu h]at h2;have:=h2.len;simp at this
theorem yX{b:Bd}{n:Int}{u:gk}(hs:∀u∈b,u.length<=60)(hu:u.length<=60):∀v∈gY b n u,v.length<=60:=fun v hv=>by
 rcases List.mem_or_eq_of_mem_set hv with h|h
 ·exact hs v h
 ·subst h;exact hu
theorem yW{b:Bd}{n:Int}(hs:∀u∈b,u.length<=60):(jM b n).length<=60:=by
 unfold jM;rw[av];cases h:b[(-1-n).toNat]? with
 |none=>simp
 |some u=>exact hs u (bO h)
theorem yy{a p t:gk}{b0:Bd}(ha:jK a=true)(hp:Wf a 1 p)(ht:Wf a 1 t)(hpl:p.length<=60)(htl:t.length<=60)(hb:b0.length=24)(hbs:∀u∈b0,u.length<=60):
 oD True (og a p t b0) (fun r=>Kr (vV a p t b0) r/\r.1.length=24):=by
 unfold og;refine oD.loop (fun s:Int×Int×Bd=>∃i c:Nat,s.1=(c:Int)/\s.2.1=(i:Int)/\Rr a p t b0 s.2.2 i c) (fun s:Int×Int×Bd=>p.length-s.2.1.toNat)
  ⟨0,0,rfl,rfl,gN,gN,hb,hbs,⟨1,by simpa using hp,by simpa using ht⟩,by simp⟩ ?_
 rintro⟨_,_,b⟩ ⟨i,c,rfl,rfl,h⟩;simp only at h;have hb:=h.hb;simp only[qx];by_cases hi:i<p.length
 ·have hc:=h.Rw hi;simp only[show(i:Int)<p.length by omega,show ¬(t.length:Int)<=c by omega,aR,aW,aB,show(0:Int)<=i by omega,show(0:Int)<=c by omega,show(c:Int)<t.length by omega,bK,
   aj,aF,au,iy hi,iy hc,lX (n:=(i:Int)+1) gN gN,lX (n:=(c:Int)+1) gN gN]
  by_cases hn:p[i]<0
  ·obtain⟨u,r,e,hu,hl,ho,hm,hk⟩:=h.var hi hn;have hul:=hu.len;have hx: -24<=p[i]:=ho.1;have hlt:(-1-p[i]).toNat<b.length:=by omega
   simp only[show ¬0<=p[i] by omega,aW,aj,aF,tG ha (show Small t by show t.length<_;omega) (fun x hx=>(ht.all x hx).1) e hu,aa,
    lX (n:= -1-p[i]) gN gN,show 0<= -1-p[i] by omega,show -1-p[i]<24 by omega,show -1-p[i]<(b.length:Int) by omega,bK,aB,hb,show((-1:Int)-p[i]<((24:Nat):Int)) by omega,
    lX (n:=(c:Int)+u.length) gN gN]
   have eg:b.getD (-1-p[i]).toNat default=jM b p[i]:=rfl;rw[eg];by_cases h0:jM b p[i]=[]
   ·rw[ah h0]at hm;simp only[h0,fU,aB,show 0<u.length by omega];exact .some ⟨⟨i+1,c+u.length,by simp,by simp,gN,gN,by simpa using hb,yX h.Dl gN,hk,by rw[hm];rfl⟩,by simp;omega⟩
   ·rw[ak h0]at hm;have:¬(jM b p[i]).isEmpty=true:=by simpa using h0
    simp only[this,aF,rN (show Small (jM b p[i]) by show List.length _<_;have:=yW (n:=p[i]) h.Dl;omega),aa];by_cases h1:jM b p[i]=u
    ·rw[ah h1]at hm;simp only[h1,cF,aB];exact .some ⟨⟨i+1,c+u.length,by simp,by simp,gN,gN,hb,h.Dl,hk,hm.symm⟩,by simp;omega⟩
    ·rw[ak h1]at hm;have:¬(jM b p[i]==u)=true:=by simpa using h1
     simp only[this,aF,aS];refine .some ?_;simp only[yV,Kr,hm];exact⟨trivial,hb⟩
  ·obtain⟨hc',ho,hm,hk⟩:=h.sym hi hn;simp only[show 0<=p[i] by omega,aR,aB];by_cases e:t[c]=p[i]
   ·rw[ah e]at hm;simp only[e,ej,aj,aF];exact .some ⟨⟨i+1,c+1,by simp,by simp,gN,gN,hb,h.Dl,hk e,hm.symm⟩,by simp;omega⟩
   ·rw[ak e]at hm;have:(t[c] != p[i])=true:=by simpa using e
    simp only[this,aB,hb,aS];refine .some ?_;simp only[yV,Kr,hm];exact⟨trivial,hb⟩
 ·have hm:=h.m;rw[bu gN,zQ]at hm;simp only[show ¬(i:Int)<p.length by omega,aW,aj,aF,hb,aB,aS];refine .some ?_;simp only[yV,Kr,<-hm];exact⟨trivial,hb⟩
def jN(s:Bd)(i:Nat):gk:=if s.getD i []=[]\/s.getD i []=[-1-(i:Int)]then []else s.getD i []
theorem KY{s o:Bd}(h:∀i,o.getD i []=jN s i){n:Int}(hn:n<0):Tm.sig o n=Tm.sig s n:=by
 unfold Tm.sig jM;rw[h];unfold jN;rw[show -1-((-1-n).toNat:Int)=n by omega];by_cases h1:s.getD (-1-n).toNat []=[]
 ·simp only[h1,true_or,aB]
 ·by_cases h2:s.getD (-1-n).toNat []=[n]
  ·simp only[h2,or_true,aB];simp
  ·simp only[h1,h2,or_self,aF]
theorem xE{s:Bd}{u:gk}{i:Nat}:(s++[u]).getD i []=if i<s.length then s.getD i []else if i=s.length then u else []:=by
 rw[av];by_cases h:i<s.length
 ·rw[ah h,aT h,av]
 ·rw[ak h,bz gN];by_cases h2:i=s.length
  ·subst h2;simp
  ·rw[ak h2,bN (by simp;omega)];rfl
theorem s_{s:Bd}{i:Nat}(h:s.length<=i):s.getD i []=[]:=by rw[av,bN h];rfl
structure Z5(s:Bd)(o:Bd)(i:Nat):Prop where
 hi:i<=s.length
 hl:o.length<=i
 he:∀j<i,o.getD j []=jN s j
theorem Bm{s:Bd}(hl:s.length<=24)(hs:∀u∈s,u.length<=60):oD True (rK s) fun o=>o.length<=24/\∀i,o.getD i []=jN s i:=by
 unfold rK;refine oD.loop (fun q:Int×Bd=>∃i:Nat,q.1=i/\Z5 s q.2 i) (fun q:Int×Bd=>s.length-q.1.toNat) ⟨0,rfl,gN,by simp,gN⟩ ?_;rintro⟨_,o⟩ ⟨i,rfl,h⟩;simp only at h;simp only[tE];by_cases hi:i<s.length
 ·have hu:=hs _ (bC hi);have hg:s.getD i []=s[i]:=iy hi;simp only[show(i:Int)<s.length by omega,aR,aB,show(0:Int)<=i by omega,bK,au,iy hi,lX (n:=(i:Int)+1) gN gN];have skip:jN s i=[]->oD True (some (Sum.inl ((i:Int)+1,o)):Option ((Int×Bd)⊕Bd)) (yV (fun q:Int×Bd=>∃i:Nat,q.1=i/\Z5 s q.2 i) (fun q:Int×Bd=>s.length-q.1.toNat) (fun o=>o.length<=24/\∀i,o.getD i []=jN s i) (s.length-i)):=fun hp=>
   .some ⟨⟨i+1,by simp,gN,Nat.le_succ_of_le h.hl,fun j hj=>by
    rcases cH j i with h3|h3
    ·exact h.he j h3
    ·obtain rfl:j=i:=by omega
     rw[hp,s_ h.hl]⟩,by simp;omega⟩
  by_cases h0:s[i]=[]
  ·simp only[h0,bQ,fV,cF,aB];exact skip (by unfold jN;rw[hg,ah (.inl h0)])
  ·have hne:¬(((s[i]).length:Int)==0)=true:=by
    have:=cc.2 h0;simp only[bF];omega
   simp only[hne,aF,qQ,aa,lX (n:= -1-(i:Int)) gN gN,rN (show Small s[i] by show List.length _<_;omega)];by_cases h1:s[i]=[-1-(i:Int)]
   ·simp only[h1,cF,aB];exact skip (by unfold jN;rw[hg,ah (.inr h1)])
   ·have:¬(s[i]==[-1-(i:Int)])=true:=by simpa using h1
    simp only[this,aF];have hp:jN s i=s[i]:=by unfold jN;rw[hg,ak (by simp[h0,h1])]
    refine oD.loop (fun o':Bd=>o'.length<=i/\∀j<i,o'.getD j []=jN s j) (fun o':Bd=>i-o'.length) ⟨h.hl,h.he⟩ ?_;rintro o' ⟨h3,h4⟩;simp only[tF];by_cases h5:o'.length<i
    ·simp only[show(o'.length:Int)<i by omega,aR,aB,show(o'.length+1)*24<=140737488355328 by omega];refine .some ⟨⟨by simp;omega,fun j hj=>?_⟩,by simp;omega⟩;rw[xE];split
     ·exact h4 j hj
     ·have:=h4 j hj;rw[s_ gN]at this;simp[<-this]
    ·simp only[show ¬(o'.length:Int)<i by omega,aW,aj,aF,show(o'.length+1)*24<=140737488355328 by omega,aB];rw[au,iy hi,pI (show Small s[i] by show List.length _<_;omega),aa,aS];refine .some ?_;refine⟨⟨i+1,by simp[lX (n:=(i:Int)+1) gN gN],gN,by simp;omega,fun j hj=>?_⟩,by simp[lX (n:=(i:Int)+1) gN gN];omega⟩;rw[xE];split
     ·exact h4 j gN
     ·obtain rfl:j=i:=by omega
      rw[ah gN,hp]
 ·simp only[show ¬(i:Int)<s.length by omega,aW,aj,aF,aS];refine .some ⟨by have:=h.hl;have:=h.hi;omega,fun j=>?_⟩;by_cases hj:j<i
  ·exact h.he j hj
  ·rw[s_ (by have:=h.hl;omega)];unfold jN;rw[s_ (s:=s) gN];simp
def rW(o:Option Bd)(r:Bd×Bool):Prop:=match o with
 |some b=>r.2=true/\r.1.length<=24/\∀i,r.1.getD i []=jN b i
 |none=>r.2=false
theorem uc{a:gk}:∀{p t:gk}{b b':Bd},vV a p t b=some b'->(∀u∈b,u.length<=60)->t.length<=60->b.length=24->b'.length=24/\∀u∈b',u.length<=60
 |[],t,b,b',h,hs,_,hb=>by rw[zQ]at h;cases h;exact⟨hb,hs⟩
 |n::p,t,b,b',h,hs,ht,hb=>by
  unfold vV at h;split at h
  ·split at h
   ·cases h
   ·rename_i r hr;have:=N2 hr;simp only at h;split at h
    ·exact uc (b:=Tm.gY b n _) h (yX hs (by simp;omega)) gN (by simpa[Tm.gY]using hb)
    ·split at h
     ·exact uc h hs gN hb
     ·cases h
  ·split at h
   ·cases h
   ·split at h
    ·exact uc h hs (by simp at ht;omega) hb
    ·cases h
theorem tC{a p t:gk}(ha:jK a=true)(hp:Wf a 1 p)(ht:Wf a 1 t)(hpl:p.length<=60)(htl:t.length<=60):oD True (qj a p t) (rW (vV a p t jR)):=by
 unfold qj;have hn:∀u∈jR,u.length<=60:=by intro u hu;simp[jR]at hu;subst hu;simp
 obtain⟨r,h1,h2,h3⟩:=(yy ha hp ht hpl htl (b0:=jR) (by simp[jR]) hn).get;rw[show(List.replicate 24 []:Bd)=jR from rfl,h1,aa,ah h3];cases hm:vV a p t jR with
 |none=>
  rw[hm]at h2;simp only[Kr]at h2;simp only[h2,aj,aF];exact .some rfl
 |some b=>
  rw[hm]at h2;simp only[Kr]at h2;subst h2;obtain⟨h4,h5⟩:=uc hm hn htl (by simp[jR]);simp only[aB,h4,mZ,aa];refine oD.bind (Bm gN h5) fun o ho=>.some ⟨rfl,ho.1,ho.2⟩
theorem uR{s:Bd}(hs:∀u∈s,u.length<=60)(hl:s.length<=24){i:Nat}(hi:i<=24):ow s i=some (if s.getD i []=[]then [-1-(i:Int)]else s.getD i []):=by
 unfold ow;rw[lX (n:= -1-(i:Int)) gN gN];by_cases h:i<s.length
 ·have hu:=hs _ (bC h);have hg:s.getD i []=s[i]:=iy h;simp only[show(i:Int)<s.length by omega,aR,aB,show(0:Int)<=i by omega,bK,au,iy h,hg];by_cases h0:s[i]=[]
  ·simp[h0]
  ·have:=cc.2 h0;simp only[h0,aF,show(0:Int)<s[i].length by omega,aR,aB,mE (show Small s[i] by show List.length _<_;omega),aa]
 ·simp only[show ¬(i:Int)<s.length by omega,aW,aj,aF,s_ (s:=s) (i:=i) gN,aB]
theorem zq{s:Bd}(hl:s.length<=24)(hs:∀u∈s,u.length<=60):oD True (pY s) fun o=>o.length<=24/\∀i,o.getD i []=jN s i:=by
 unfold pY;refine oD.loop (fun q:Int×Bd=>∃i:Nat,q.1=i/\i<=s.length/\q.2.length=i/\∀j<i,q.2.getD j []=jN s j) (fun q:Int×Bd=>s.length-q.1.toNat) ⟨0,rfl,gN,rfl,gN⟩ ?_;rintro⟨_,o⟩ ⟨i,rfl,h1,h2,h3⟩;simp only at h2 h3;simp only[rQ];by_cases hi:i<s.length
 ·have hw:IntKind.i64.wrap ((i:Int)+1)=i+1:=lX gN gN;have hw2:IntKind.i64.wrap (-1-(i:Int))= -1-i:=lX gN gN;have hm:(o.length+1)*24<=140737488355328:=by omega
  have hg:s.getD i []=s[i]:=iy hi;have step:∀u:gk,jN s i=u->oD True (some (Sum.inl ((i:Int)+1,o++[u])):Option ((Int×Bd)⊕Bd)) (yV (fun q:Int×Bd=>∃i:Nat,q.1=i/\i<=s.length/\q.2.length=i/\∀j<i,q.2.getD j []=jN s j) (fun q:Int×Bd=>s.length-q.1.toNat) (fun o=>o.length<=24/\∀i,o.getD i []=jN s i) (s.length-i)):=fun u hu=>
   .some ⟨⟨i+1,by simp,gN,by simp[h2],fun j hj=>by
    rw[xE];split
    ·exact h3 j gN
    ·rw[ah gN,show j=i by omega,hu]⟩,by simp;omega⟩
  simp only[show(i:Int)<s.length by omega,aR,aB,uR hs hl (i:=i) gN,aa,hm,hw,hw2];by_cases h0:s[i]=[]
  ·simp only[hg,h0,aB,aY,Int.natCast_one,cF,eE,show(0:Int)<1 by omega,bK,List.getD_cons_zero];exact step [] (by unfold jN;rw[hg,ah (.inl h0)])
  ·simp only[hg,h0,aF];by_cases hlen:s[i].length=1
   ·obtain⟨x,hx⟩:=List.length_eq_one_iff.1 hlen;simp only[hx,aY,Int.natCast_one,cF,aB,eE,show(0:Int)<1 by omega,bK,List.getD_cons_zero];by_cases e:x= -1-(i:Int)
    ·simp only[e,cF,aB];exact step [] (by unfold jN;rw[hg,ah (.inr (by rw[hx,e]))])
    ·have:¬(x== -1-(i:Int))=true:=by simpa using e
     simp only[this,aF];exact step [x] (by unfold jN;rw[hg,hx,ak (by simp[e])])
   ·have:¬((s[i].length:Int)==1)=true:=by simp only[bF];omega
    simp only[this,aF];refine step s[i] ?_;unfold jN;rw[hg,ak];rintro(h|h)
    ·exact h0 h
    ·exact hlen (by rw[h];rfl)
 ·simp only[show ¬(i:Int)<s.length by omega,aW,aj,aF];have hall:∀j,o.getD j []=jN s j:=fun j=>by
   by_cases hj:j<i
   ·exact h3 j hj
   ·rw[s_ gN];unfold jN;rw[s_ (s:=s) gN];simp
  refine oD.inr ?_;simp only[yV];refine oD.loop (fun o':Bd=>o'.length<=24/\∀j,o'.getD j []=jN s j) (fun o':Bd=>o'.length) ⟨gN,hall⟩ ?_;rintro o' ⟨h4,h5⟩;simp only[rR];by_cases h6:0<o'.length
  ·have hw:IntKind.i64.wrap ((o'.length:Int)-1)=o'.length-1:=lX gN gN;have ht:((o'.length:Int)-1).toNat=o'.length-1:=by omega
   have hlt:o'.length-1<o'.length:=by omega
   simp only[show(0:Int)<o'.length by omega,aR,aB,hw,show 0<=(o'.length:Int)-1 by omega,show(o'.length:Int)-1<o'.length by omega,show(o'.length:Int)-1<=o'.length by omega,bK,ht,iy hlt];by_cases h7:o'[o'.length-1]=[]
   ·simp only[h7,bQ,fV,cF,aB];refine .some ⟨⟨by simp;omega,fun j=>?_⟩,by simp;omega⟩;rw[<-h5 j,av,av,cq];split
    ·rfl
    ·by_cases hj:j=o'.length-1
     ·subst hj;rw[az hlt,h7];rfl
     ·rw[bN gN]
   ·have:=cc.2 h7;have:¬((o'[o'.length-1].length:Int)==0)=true:=by simp only[bF];omega
    simp only[this,aF,aS];exact .some ⟨h4,h5⟩
  ·simp only[show ¬(0:Int)<o'.length by omega,aW,aj,aF,aS];exact .some ⟨h4,h5⟩
theorem zu{a p t:gk}(ha:jK a=true)(hp:Wf a 1 p)(ht:Wf a 1 t)(hpl:p.length<=60)(htl:t.length<=60):oD True (pZ a p t) (rW (vV a p t jR)):=by
 have hn:∀u∈jR,u.length<=60:=by intro u hu;simp[jR]at hu;subst hu;simp
 unfold pZ;rw[show(List.replicate 24 []:Bd)=jR from rfl];refine oD.loop (fun s:Int×Int×Bd=>∃i c:Nat,s.1=(c:Int)/\s.2.1=(i:Int)/\Rr a p t jR s.2.2 i c) (fun s:Int×Int×Bd=>p.length-s.2.1.toNat)
  ⟨0,0,rfl,rfl,gN,gN,by simp[jR],hn,⟨1,by simpa using hp,by simpa using ht⟩,by simp⟩ ?_
 rintro⟨_,_,b⟩ ⟨i,c,rfl,rfl,h⟩;simp only at h;have hb:=h.hb;simp only[rT];by_cases hi:i<p.length
 ·have hc:=h.Rw hi;simp only[show(i:Int)<p.length by omega,show ¬(t.length:Int)<=c by omega,aR,aW,aB,show(0:Int)<=i by omega,show(0:Int)<=c by omega,show(c:Int)<t.length by omega,bK,
   aj,aF,au,iy hi,iy hc,lX (n:=(i:Int)+1) gN gN,lX (n:=(c:Int)+1) gN gN]
  by_cases hn:p[i]<0
  ·obtain⟨u,r,e,hu,hl,ho,hm,hk⟩:=h.var hi hn;have hul:=hu.len;have hx: -24<=p[i]:=ho.1;have hlt:(-1-p[i]).toNat<b.length:=by omega
   simp only[show ¬0<=p[i] by omega,aW,aj,aF,wY ha (show Small t by show t.length<_;omega) e hu,aa,
    lX (n:= -1-p[i]) gN gN,show 0<= -1-p[i] by omega,show -1-p[i]<24 by omega,bK,aB,hb,show((-1:Int)-p[i]<((24:Nat):Int)) by omega,
    lX (n:=(c:Int)+u.length) gN gN]
   have eg:b.getD (-1-p[i]).toNat default=jM b p[i]:=rfl;rw[eg];by_cases h0:jM b p[i]=[]
   ·rw[ah h0]at hm;simp only[h0,bQ,fV,Int.lt_irrefl,aW,aj,aF];exact .some ⟨⟨i+1,c+u.length,by simp,by simp,gN,gN,by simpa using hb,yX h.Dl gN,hk,by rw[hm];rfl⟩,by simp;omega⟩
   ·rw[ak h0]at hm;have hp0:=cc.2 h0;simp only[show(0:Int)<((jM b p[i]).length:Int) by omega,aR,aB,um (show Small (jM b p[i]) by show List.length _<_;have:=yW (n:=p[i]) h.Dl;omega),aa];by_cases h1:jM b p[i]=u
    ·rw[ah h1]at hm;simp only[h1,cF,aB];have hset:b.set (-1-p[i]).toNat u=b:=by
      have:b[(-1-p[i]).toNat]=u:=by rw[<-h1];exact(iy hlt).symm
      rw[<-this];exact List.set_getElem_self hlt
     rw[hset];exact .some ⟨⟨i+1,c+u.length,by simp,by simp,gN,gN,hb,h.Dl,hk,hm.symm⟩,by simp;omega⟩
    ·rw[ak h1]at hm;have:¬(jM b p[i]==u)=true:=by simpa using h1
     simp only[this,aF,aS];refine .some ?_;simp only[yV,rW,hm]
  ·obtain⟨hc',ho,hm,hk⟩:=h.sym hi hn;simp only[show 0<=p[i] by omega,aR,aB];by_cases e:t[c]=p[i]
   ·rw[ah e]at hm;simp only[e,ej,aj,aF];exact .some ⟨⟨i+1,c+1,by simp,by simp,gN,gN,hb,h.Dl,hk e,hm.symm⟩,by simp;omega⟩
   ·rw[ak e]at hm;have:(p[i] != t[c])=true:=by simpa using fun h=>e h.symm
    simp only[this,aB,aS];refine .some ?_;simp only[yV,rW,hm]
 ·have hm:=h.m;rw[bu gN,zQ]at hm;simp only[show ¬(i:Int)<p.length by omega,aW,aj,aF,hb,aB];refine oD.inr ?_;refine oD.bind (zq gN h.Dl) fun o ho=>.some ?_
  simp only[yV,rW,<-hm];exact⟨trivial,ho.1,ho.2⟩
theorem CW{σ:Int->gk}{t:gk}{i:Nat}(hi:i<t.length):sub σ (t.take (i+1))=sub σ (t.take i)++(if t[i]<0 then σ t[i]else [t[i]]):=by
 rw[ek,az hi,kS];simp[sub]
theorem x_{σ:Int->gk}{t:gk}{i:Nat}:(sub σ (t.take i)).length<=(sub σ t).length:=by
 have:sub σ t=sub σ (t.take i)++sub σ (t.drop i):=by rw[<-kS,cr]
 rw[this];simp
def r_(σ:Int->gk)(t:gk):Option gk:=if(sub σ t).length<=60 then some (sub σ t)else none
def sx(o:Option gk):gk×Bool:=match o with|some x=>(x,true)|none=>([],false)
theorem Bk{s:Bd}(hl:s.length<=24){i:Nat}(hi:i<=24):mH s i=some (s.getD i []):=by
 unfold mH;by_cases h:i<s.length
 ·have hg:s.getD i []=s[i]:=iy h;simp only[show ¬(s.length:Int)<=i by omega,aW,aj,aF,show(0:Int)<=i by omega,show(i:Int)<s.length by omega,bK,aB,au,iy h,hg];by_cases h0:s[i]=[]
  ·simp[h0]
  ·have:=cc.2 h0;have h2:¬((s[i].length:Int)==0)=true:=by simp only[bF];omega
   simp only[h2,aj,aF,this,aB]
 ·simp only[show(s.length:Int)<=i by omega,aR,aB,s_ (s:=s) (i:=i) gN]
theorem DJ{σ:Int->gk}{t:gk}{i:Nat}(hi:i<t.length){out u:gk}(ho:out=sub σ (t.take i))(hu:u=if t[i]<0 then σ t[i]else [t[i]]):
 (60<(out++u).length->r_ σ t=none)/\out++u=sub σ (t.take (i+1)):=by
 have e:out++u=sub σ (t.take (i+1)):=by rw[CW hi,ho,hu]
 refine⟨fun h=>?_,e⟩;rw[e]at h;unfold r_;rw[ak];have:=x_ (σ:=σ) (t:=t) (i:=i+1);omega
theorem BQ{s:Bd}{t:gk}(hl:s.length<=24)(hs:∀i,(s.getD i []).length<=60)(ht:t.length<=60)(hx:∀x∈t, -24<=x):qZ s t=some (sx (r_ (Tm.sig s) t)):=by
 have key:oD True (qZ s t) (·=sx (r_ (Tm.sig s) t)):=by
  unfold qZ;simp only[oa,aa,show 0<=(t.length:Int)/\8*(t.length:Int)<=281474976710656 by omega,bK,aB];refine oD.loop (fun q:gk×Int=>∃i:Nat,q.2=i/\i<=t.length/\q.1=sub (Tm.sig s) (t.take i)/\q.1.length<=60) (fun q:gk×Int=>t.length-q.2.toNat) ⟨0,rfl,gN,by simp[sub],by simp⟩ ?_;rintro⟨out,_⟩ ⟨i,rfl,h1,h2,h3⟩;simp only at h2 h3;simp only[uj];by_cases hi:i<t.length
  ·have hxi:=hx _ (bC hi);simp only[show(i:Int)<t.length by omega,aR,aB,show(0:Int)<=i by omega,bK,au,iy hi,lX (n:=(i:Int)+1) gN gN];have fin:∀u:gk,u.length<=60->u=(if t[i]<0 then Tm.sig s t[i]else [t[i]])->oD True (if decide (60<((out++u).length:Int))=true then Option.map Sum.inr (some (([]:gk),false))else some (Sum.inl (out++u,(i:Int)+1)))
    (yV (fun q:gk×Int=>∃i:Nat,q.2=i/\i<=t.length/\q.1=sub (Tm.sig s) (t.take i)/\q.1.length<=60) (fun q:gk×Int=>t.length-q.2.toNat) (·=sx (r_ (Tm.sig s) t)) (t.length-i)):=fun u hu e=>by
    obtain⟨h4,h5⟩:=DJ hi h2 e;by_cases h6:60<(out++u).length
    ·simp only[show(60:Int)<((out++u).length:Int) by omega,aR,aB,aS];refine .some ?_;simp only[yV,h4 h6,sx]
    ·simp only[show ¬(60:Int)<((out++u).length:Int) by omega,aW,aj,aF];exact .some ⟨⟨i+1,by simp,gN,h5,by simp only;omega⟩,by simp;omega⟩
   unfold mY;by_cases hn:t[i]<0
   ·have hi24:((-1-t[i]).toNat:Int)= -1-t[i]:=by omega
    simp only[show ¬0<=t[i] by omega,aW,aj,aF,lX (n:= -1-t[i]) gN gN];rw[<-hi24,Bk hl gN,aa,aa];have hb:s.getD (-1-t[i]).toNat []=jM s t[i]:=rfl;rw[hb];have hbl:(jM s t[i]).length<=60:=hs _;by_cases h0:jM s t[i]=[]
    ·simp only[h0,fU,aB,show(out.length+1)*8<=140737488355328 by omega];exact fin [t[i]] (by simp) (by rw[ah hn];unfold Tm.sig;rw[ah h0])
    ·have:¬(jM s t[i]).isEmpty=true:=by simpa using h0
     simp only[this,aF,show(out.length+(jM s t[i]).length)*8<=140737488355328 by omega,aB];exact fin (jM s t[i]) hbl (by rw[ah hn];unfold Tm.sig;rw[ak h0])
   ·simp only[show 0<=t[i] by omega,aR,aB,aa,fU,show(out.length+1)*8<=140737488355328 by omega];exact fin [t[i]] (by simp) (by rw[ak hn])
  ·simp only[show ¬(i:Int)<t.length by omega,aW,aj,aF,aS];refine .some ?_;rw[bH gN]at h2;simp only[yV,r_,<-h2,h3,aB,sx]
 exact key.eq
theorem yT{s:Bd}{t:gk}(hl:s.length<=24)(hs:∀u∈s,u.length<=60)(ht:t.length<=60)(hx:∀x∈t, -24<=x):nE s t=some (sx (r_ (Tm.sig s) t)):=by
 have key:oD True (nE s t) (·=sx (r_ (Tm.sig s) t)):=by
  unfold nE;refine oD.loop (fun q:gk×Int=>∃i:Nat,q.2=i/\i<=t.length/\q.1=sub (Tm.sig s) (t.take i)/\q.1.length<=60) (fun q:gk×Int=>t.length-q.2.toNat) ⟨0,rfl,gN,by simp[sub],by simp⟩ ?_;rintro⟨out,_⟩ ⟨i,rfl,h1,h2,h3⟩;simp only at h2 h3;simp only[qV];by_cases hi:i<t.length
  ·have hxi:=hx _ (bC hi);simp only[show(i:Int)<t.length by omega,aR,aB,show(0:Int)<=i by omega,bK,au,iy hi,lX (n:=(i:Int)+1) gN gN];have fin:∀u:gk,u.length<=60->u=(if t[i]<0 then Tm.sig s t[i]else [t[i]])->oD True (if decide (60<((out++u).length:Int))=true then Option.map Sum.inr (some (([]:gk),false))else some (Sum.inl (out++u,(i:Int)+1)))
    (yV (fun q:gk×Int=>∃i:Nat,q.2=i/\i<=t.length/\q.1=sub (Tm.sig s) (t.take i)/\q.1.length<=60) (fun q:gk×Int=>t.length-q.2.toNat) (·=sx (r_ (Tm.sig s) t)) (t.length-i)):=fun u hu e=>by
    obtain⟨h4,h5⟩:=DJ hi h2 e;by_cases h6:60<(out++u).length
    ·simp only[show(60:Int)<((out++u).length:Int) by omega,aR,aB,aS];refine .some ?_;simp only[yV,h4 h6,sx]
    ·simp only[show ¬(60:Int)<((out++u).length:Int) by omega,aW,aj,aF];exact .some ⟨⟨i+1,by simp,gN,h5,by simp only;omega⟩,by simp;omega⟩
   by_cases hn:t[i]<0
   ·have hi24:((-1-t[i]).toNat:Int)= -1-t[i]:=by omega
    simp only[hn,aR,aB,lX (n:= -1-t[i]) gN gN];rw[<-hi24,uR hs hl gN,aa,hi24];have hb:s.getD (-1-t[i]).toNat []=jM s t[i]:=rfl;rw[hb];have hbl:(jM s t[i]).length<=60:=yW hs;by_cases h0:jM s t[i]=[]
    ·simp only[h0,aB,aY,show(out.length+1)*8<=140737488355328 by omega,show -1-(-1-t[i])=t[i] by omega];exact fin [t[i]] (by simp) (by rw[ah hn];unfold Tm.sig;rw[ah h0])
    ·simp only[h0,aF,show(out.length+(jM s t[i]).length)*8<=140737488355328 by omega,aB];exact fin (jM s t[i]) hbl (by rw[ah hn];unfold Tm.sig;rw[ak h0])
   ·simp only[hn,aW,aj,aF,show(out.length+1)*8<=140737488355328 by omega,aB];exact fin [t[i]] (by simp) (by rw[ak hn])
  ·simp only[show ¬(i:Int)<t.length by omega,aW,aj,aF,aS];refine .some ?_;rw[bH gN]at h2;simp only[yV,r_,<-h2,h3,aB,sx]
 exact key.eq
theorem uk{xs:List gk}(hl:xs.length<=3)(hs:∀u∈xs,u.length<=60):jr xs=some xs.flatten:=by
 have hfl:∀i,i<=xs.length->(xs.take i).flatten.length<=60*i:=fun i=>by
  induction i with
  |zero=>simp
  |succ i ih=>
   intro hi;have h1:i<xs.length:=by omega
   rw[ek,az h1,fq,aq];have:=ih gN;have:=hs _ (bC h1);simp only[Option.toList_some,cA,List.flatten_nil,aV];omega
 have tk:∀i (h1:i<xs.length),(xs.take (i+1)).flatten=(xs.take i).flatten++xs[i]:=fun i h1=>by rw[ek,az h1,fq];simp
 have key:oD True (jr xs) (·=xs.flatten):=by
  unfold jr;refine oD.loop (fun q:Int×Int=>∃i:Nat,q.2=i/\i<=xs.length/\q.1=((xs.take i).flatten.length:Int)) (fun q:Int×Int=>xs.length-q.2.toNat) ⟨0,rfl,gN,by simp⟩ ?_;rintro⟨_,_⟩ ⟨i,rfl,h1,rfl⟩;simp only[kW];have hb:=hfl i h1;by_cases hi:i<xs.length
  ·have hu:=hs _ (bC hi);simp only[show(i:Int)<xs.length by omega,aR,aB,show(0:Int)<=i by omega,bK,au,iy hi,lX (n:=(i:Int)+1) gN gN,
    lX (n:=((xs.take i).flatten.length:Int)+(xs[i].length:Int)) gN gN,show ¬((xs.take i).flatten.length:Int)+(xs[i].length:Int)<0 by omega,aW,aj,aF]
   exact .some ⟨⟨i+1,by simp,gN,by rw[tk i hi];simp⟩,by simp;omega⟩
  ·simp only[show ¬(i:Int)<xs.length by omega,aW,aj,aF,nk,show 0<=((xs.take i).flatten.length:Int)/\((xs.take i).flatten.length:Int)*8<=140737488355328 by omega,bK,aB,aa];refine oD.inr ?_;simp only[yV];refine oD.loop (fun q:gk×Int=>∃i:Nat,q.2=i/\i<=xs.length/\q.1=(xs.take i).flatten) (fun q:gk×Int=>xs.length-q.2.toNat) ⟨0,rfl,gN,by simp⟩ ?_;rintro⟨_,_⟩ ⟨j,rfl,h2,rfl⟩;simp only[kX];have hb:=hfl j h2;by_cases hj:j<xs.length
   ·have hu:=hs _ (bC hj);simp only[show(j:Int)<xs.length by omega,aR,aB,show(0:Int)<=j by omega,bK,au,iy hj,lX (n:=(j:Int)+1) gN gN,
     show((xs.take j).flatten.length+xs[j].length)*8<=140737488355328 by omega]
    exact .some ⟨⟨j+1,by simp,gN,by rw[tk j hj]⟩,by simp;omega⟩
   ·simp only[show ¬(j:Int)<xs.length by omega,aW,aj,aF,aS];refine .some ?_;simp only[yV];rw[bH gN]
 exact key.eq
def K3(a t:gk)(i:Nat)(v:gk):Option gk:=if(Gp a t i v).length<=60 then some (Gp a t i v)else none
theorem Db{a p u s v:gk}(ha:jK a=true)(hu:Wf a 1 u)(hm:∀x∈p++(u++s), -24<=x)(hl:(p++(u++s)).length<=60)(hv:v.length<=60):
 pR a (p++(u++s)) (p.length:Int) v=some (sx (K3 a (p++(u++s)) p.length v)):=by
 have hd:(p++(u++s)).drop p.length=u++s:=bY;have hl':=hl;simp only[aq]at hl';unfold pR;rw[ah (by simp only[aq];omega),tA ha (by show List.length _<_;omega) hm (by simp),aa,zF hd hu];have e1:((p++(u++s)).length:Int)-s.length=((p.length+u.length:Nat):Int):=by simp;omega
 rw[e1,ah (by simp;omega),au,au,ei,<-List.drop_drop,hd,bY];rw[uk (by simp) (by intro w hw;simp at hw;rcases hw with rfl|rfl|rfl<;>omega),aa];unfold K3;rw[z_ hu];have e2:[p,v,s].flatten=p++(v++s):=by simp
 rw[e2];by_cases h:(p++(v++s)).length<=60
 ·simp only[show ¬(60:Int)<((p++(v++s)).length:Int) by omega,aW,aj,aF,h,aB,sx]
 ·simp only[show(60:Int)<((p++(v++s)).length:Int) by omega,aR,aB,h,aF,sx]
theorem Bq{a p u s v:gk}(ha:jK a=true)(hu:Wf a 1 u)(hl:(p++(u++s)).length<=60)(hv:v.length<=60):
 rS a (p++(u++s)) (p.length:Int) v=some (sx (K3 a (p++(u++s)) p.length v)):=by
 have hd:(p++(u++s)).drop p.length=u++s:=bY;have hl':=hl;simp only[aq]at hl';unfold rS;rw[ah (by simp only[aq];omega),au,ei,mE (by show List.length _<_;omega),aa,ah gN,tH ha (by show List.length _<_;omega) (by simp),aa,zF hd hu];have e1:((p++(u++s)).length:Int)-s.length=((p.length+u.length:Nat):Int):=by simp;omega
 rw[e1,ah (by simp;omega),au,<-List.drop_drop,hd,bY,ah (by simp;omega),aG];unfold K3;rw[z_ hu];by_cases h:(p++(v++s)).length<=60
 ·simp only[show ¬(60:Int)<((p++(v++s)).length:Int) by omega,aW,aj,aF,h,aB,sx]
 ·simp only[show(60:Int)<((p++(v++s)).length:Int) by omega,aR,aB,h,aF,sx]
abbrev Sys:=gk×List gm
theorem nG{s:Sys}:kB s=true<->jK s.1=true/\s.2.length<=12/\∀r∈s.2,vu s.1 r=true:=by simp[kB]
theorem mX{a:gk}{r:gk×gk}:vu a r=true<->iX a r.1=true/\iX a r.2=true/\0<=r.1.headD 0/\∀x∈r.2,x<0->x∈r.1:=by simp only[vu,JW,bE,aA,cm]
def ry(s:Sys)(t:gk)(i rule:Nat):Option gk:=CU s.1 (s.2.getD rule default).1 (s.2.getD rule default).2 t i
theorem Bb{b o:Bd}(hb:∀u∈b,u.length<=60)(h:∀i,o.getD i []=jN b i):(∀i,(o.getD i []).length<=60)/\∀u∈o,u.length<=60:=by
 have h1:∀i,(o.getD i []).length<=60:=fun i=>by
  rw[h];unfold jN;split
  ·simp
  ·rw[av];cases hx:b[i]? with
   |none=>simp
   |some u=>exact hb u (bO hx)
 refine⟨h1,fun u hu=>?_⟩;obtain⟨i,hi,rfl⟩:=List.getElem_of_mem hu;have:=h1 i;rwa [show o.getD i []=o[i]from iy hi]at this
theorem Cg{b o:Bd}(h:∀i,o.getD i []=jN b i)(t:gk):r_ (Tm.sig o) t=r_ (Tm.sig b) t:=by
 unfold r_;rw[sub_congr fun x _ hx=>KY h hx]
theorem GF{a l r p u s:gk}(hu:Wf a 1 u):CU a l r (p++(u++s)) p.length=(vV a l u jR).bind fun b=>(r_ (Tm.sig b) r).bind fun v=>K3 a (p++(u++s)) p.length v:=by
 unfold CU;rw[yG hu];congr 1;funext b;unfold r_ K3;by_cases h1:(sub (Tm.sig b) r).length<=60
 ·rw[ah h1,aa];by_cases h2:(Gp a (p++(u++s)) p.length (sub (Tm.sig b) r)).length<=60
  ·rw[ah ⟨h1,h2⟩,ah h2]
  ·rw[ak (fun h=>h2 h.2),ak h2]
 ·rw[ak (fun h=>h1 h.1),ak h1];rfl
theorem BR{s:Sys}{t:gk}{i rule:Nat}(hs:kB s=true)(ht:iX s.1 t=true)(hi:i<t.length)(hr:rule<s.2.length):sZ s t i rule=some (sx (ry s t i rule)):=by
 obtain⟨ha,_,hrs⟩:=nG.1 hs;obtain⟨_,h1,h2,hw⟩:=ig.1 ht;obtain⟨p,u,q,rfl,rfl,hu⟩:=hw.place hi;have hrule:=mX.1 (hrs _ (jP hr));obtain⟨hL,hR,_,hv⟩:=hrule;obtain⟨_,hL1,hL2,hL3⟩:=ig.1 hL;obtain⟨_,hR1,hR2,hR3⟩:=ig.1 hR;have hm:∀x∈p++(u++q), -24<=x:=fun x hx=>(hw.all x hx).1
 have hul:u.length<=60:=by simp at h2;omega
 unfold sZ ry;rw[ah gN,tG ha (by show List.length _<_;omega) hm bY hu,aa,au];obtain⟨o,e1,e2⟩:=(tC ha hL3 hu hL2 hul).get;rw[e1,aa,GF hu];cases hmat:vV s.1 (s.2.getD rule default).1 u jR with
 |none=>
  rw[hmat]at e2;simp only[rW]at e2;simp only[e2,aj,aF,fR,sx]
 |some b=>
  rw[hmat]at e2;obtain⟨e3,e4,e5⟩:=e2;obtain⟨hb1,hb2⟩:=uc hmat (by intro u hu;simp[jR]at hu;subst hu;simp) hul (by simp[jR]);obtain⟨hp1,hp2⟩:=Bb hb2 e5;rw[ah e3,ah gN,BQ e4 hp1 hR2 (fun x hx=>(hR3.all x hx).1),aa,aa,Cg e5];cases hf:r_ (Tm.sig b) (s.2.getD rule default).2 with
  |none=>simp[sx]
  |some v=>
   have hv60:v.length<=60:=by
    unfold r_ at hf;split at hf
    ·rename_i h;cases hf;exact h
    ·cases hf
   simp only[sx,aB,aa];rw[Db ha hu hm h2 hv60];rfl
theorem Aq{s:Sys}{t:gk}{i rule:Nat}(hs:kB s=true)(ht:iX s.1 t=true)(hi:i<t.length)(hr:rule<s.2.length):qJ s t i rule=some (sx (ry s t i rule)):=by
 obtain⟨ha,_,hrs⟩:=nG.1 hs;obtain⟨_,h1,h2,hw⟩:=ig.1 ht;obtain⟨p,u,q,rfl,rfl,hu⟩:=hw.place hi;have hrule:=mX.1 (hrs _ (jP hr));obtain⟨hL,hR,_,hv⟩:=hrule;obtain⟨_,hL1,hL2,hL3⟩:=ig.1 hL;obtain⟨_,hR1,hR2,hR3⟩:=ig.1 hR;have hul:u.length<=60:=by simp at h2;omega
 unfold qJ ry;rw[ah gN,wY ha (by show List.length _<_;omega) bY hu,aa,au];obtain⟨o,e1,e2⟩:=(zu ha hL3 hu hL2 hul).get;rw[e1,aa,GF hu];cases hmat:vV s.1 (s.2.getD rule default).1 u jR with
 |none=>
  rw[hmat]at e2;simp only[rW]at e2;simp only[e2,aj,aF,fR,sx]
 |some b=>
  rw[hmat]at e2;obtain⟨e3,e4,e5⟩:=e2;obtain⟨hb1,hb2⟩:=uc hmat (by intro u hu;simp[jR]at hu;subst hu;simp) hul (by simp[jR]);obtain⟨hp1,hp2⟩:=Bb hb2 e5;rw[ah e3,yT e4 hp2 hR2 (fun x hx=>(hR3.all x hx).1),aa,aa,Cg e5];cases hf:r_ (Tm.sig b) (s.2.getD rule default).2 with
  |none=>simp[sx]
  |some v=>
   have hv60:v.length<=60:=by
    unfold r_ at hf;split at hf
    ·rename_i h;cases hf;exact h
    ·cases hf
   simp only[sx,aB,aa];rw[Bq ha hu h2 hv60];rfl
def sw(s:Sys)(t:gk)(i rule:Int):Option gk:=
 if(kB s=true/\iX s.1 t=true)/\(0<=i/\i<t.length)/\(0<=rule/\rule<s.2.length)then ry s t i.toNat rule.toNat else none
theorem Dz{s:Sys}{t u:gk}{i rule:Int}(h:sw s t i rule=some u):u.length<=60:=by
 unfold sw at h;split at h
 ·unfold ry CU at h;obtain⟨b,_,h⟩:=ai.1 h;split at h
  ·rename_i hc;cases h;exact hc.2
  ·cases h
 ·cases h
abbrev Eg:=Int×Int×gk
theorem pN{σ γ:Type}{n:Nat}(st:Nat->σ){c:γ}{f:σ->Option (σ⊕γ)}(h:∀i,i<n->f (st i)=some (.inl (st (i+1))))(he:f (st n)=some (.inr c)):g_ f (st 0)=some c:=by
 have key:∀k i,i+k=n->g_ f (st i)=some c:=by
  intro k;induction k with
  |zero=>
   intro i hi;obtain rfl:i=n:=by omega
   exact ie he
  |succ k ih=>intro i hi;rw[iB (h i gN)];exact ih (i+1) gN
 exact key n 0 gN
theorem drop_cons{α:Type}[Inhabited α]{a:List α}{i:Nat}{x:α}{r:List α}(h:a.drop i=x::r):i<a.length/\a.getD i default=x/\a.drop (i+1)=r:=by
 have hlt:i<a.length:=Nat.lt_of_not_le fun hn=>by rw[bu hn]at h;cases h
 rw[aE hlt]at h;simp only[bR]at h;exact⟨hlt,by rw[iy hlt,h.1],h.2⟩
theorem Ji{α β:Type}[Inhabited α]{a:List α}{z:List β}{g:α->β}(hl:z.length=a.length){f:Int×List β->Option ((Int×List β)⊕List β)}
 (h:∀(i:Nat)(out:List β),i<a.length->out.length=a.length->a.getD i default∈a->f ((i:Int),out)=some (.inl ((i:Int)+1,out.set i (g (a.getD i default)))))
 (he:∀out,f ((a.length:Int),out)=some (.inr out)):g_ f (0,z)=some (a.map g):=by
 have hz:(a.take 0).map g++z.drop 0=z:=by simp
 refine Eq.trans ?_ (pN (n:=a.length) (fun i=>((i:Int),(a.take i).map g++z.drop i)) (fun i hi=>?_) ((he _).trans (by rw[cz,<-hl,fc,aV])))
 ·simp
 ·rw[h i _ hi (by simp;omega) (jP hi)];refine bX (fun x=>some (Sum.inl x)) (Prod.ext (by simp) ?_);show((a.take i).map g++z.drop i).set i _=_;rw[fh _ _ (by simp;omega)];have hm:i-((a.take i).map g).length=0:=by simp;omega
  have hzl:i<z.length:=by omega
  rw[hm,aE hzl,eR,bM hi,aP,aG,iy hi];simp
theorem DU{α:Type}{a:List α}{f:Int->Option gA}(h:∀i:Nat,i<a.length->f (i:Int)=some (.inl ((i:Int)+1)))(he:f a.length=some (.inr true)):g_ f 0=some true:=
 pN (n:=a.length) (fun i=>(i:Int)) (fun i hi=>h i hi) he
abbrev LL:=List gk
abbrev Rs:=Int×Int×Bool×gk
abbrev Tn:=gk×List Rs
abbrev LO:=gk×gk
def I1(a:gk)(e:LO):Bool:=iX a e.1&&iX a e.2
def Er(a:gk)(eqs:List LO):Bool:=jK a&&(decide (eqs.length<=12)&&eqs.all (I1 a))
theorem FI{a:gk}{e:LO}:I1 a e=true<->iX a e.1=true/\iX a e.2=true:=by simp[I1]
theorem DH{a:gk}{eqs:List LO}:Er a eqs=true<->jK a=true/\eqs.length<=12/\∀e∈eqs,I1 a e=true:=by simp[Er]
def JI(eqs:List LO)(m:Rs):gk:=if m.2.2.1=true then(eqs.getD m.1.toNat default).2 else(eqs.getD m.1.toNat default).1
def JJ(eqs:List LO)(m:Rs):gk:=if m.2.2.1=true then(eqs.getD m.1.toNat default).1 else(eqs.getD m.1.toNat default).2
def Ye(eqs:List LO)(t:gk)(m:Rs):Prop:=(0<=m.1/\m.1<eqs.length)/\(0<=m.2.1/\m.2.1<t.length)/\m.2.1<m.2.2.2.length
instance(eqs:List LO)(t:gk)(m:Rs):Decidable (Ye eqs t m):=by unfold Ye;infer_instance
def Gg(a:gk)(eqs:List LO)(t:gk)(m:Rs):Bool:=decide (Ye eqs t m)&&(iX a m.2.2.2&&Yg a (JI eqs m) (JJ eqs m) t m.2.2.2 m.2.1.toNat)
theorem Nr{a:gk}{eqs:List LO}{t:gk}{m:Rs}(h:Gg a eqs t m=true):iX a m.2.2.2=true:=by simp only[Gg,bE]at h;exact h.2.1
theorem KS{a:gk}{eqs:List LO}{t:gk}{m:Rs}(he:Er a eqs=true)(ht:iX a t=true):
 Gg a eqs t m=true<->(0<=m.1/\m.1<eqs.length)/\0<=m.2.1/\iX a m.2.2.2=true/\Mv a (JI eqs m) (JJ eqs m) t m.2.2.2 m.2.1.toNat:=by
 obtain⟨ha,hel,hall⟩:=DH.1 he;obtain⟨_,t1,t2,t3⟩:=ig.1 ht;have sides:(0<=m.1/\m.1<eqs.length)->Wf a 1 (JI eqs m)/\Wf a 1 (JJ eqs m):=fun h=>by
  obtain⟨hL,hR⟩:=FI.1 (hall _ (jP (show m.1.toNat<eqs.length by omega)));unfold JI JJ;cases m.2.2.1 with
  |true=>exact⟨(ig.1 hR).2.2.2,(ig.1 hL).2.2.2⟩
  |false=>exact⟨(ig.1 hL).2.2.2,(ig.1 hR).2.2.2⟩
 simp only[Gg,bE,aA];unfold Ye;constructor
 ·rintro⟨⟨h1,h2,h3⟩,h4,h5⟩;exact⟨h1,h2.1,h4,(Jm (sides h1).1 (sides h1).2 t3 (ig.1 h4).2.2.2 gN gN).1 h5⟩
 ·rintro⟨h1,h2,h4,h5⟩;have h5':=h5;obtain⟨p,s,σ,hp,e1,e2,hσ⟩:=h5';have l1:=((sides h1).1.sub fun x _ hx=>hσ x hx).len;have l2:=((sides h1).2.sub fun x _ hx=>hσ x hx).len;have e1:=bX List.length e1;have e2:=bX List.length e2;simp only[aq]at e1 e2;exact⟨⟨h1,⟨h2,gN⟩,gN⟩,h4,(Jm (sides h1).1 (sides h1).2 t3 (ig.1 h4).2.2.2 gN gN).2 h5⟩
theorem Q8{s:Sys}(h:kB s=true):Er s.1 s.2=true:=by
 obtain⟨h1,h2,h3⟩:=nG.1 h;exact DH.2 ⟨h1,h2,fun e he=>let h:=mX.1 (h3 e he);FI.2 ⟨h.1,h.2.1⟩⟩
theorem GC{s:Sys}{t u:gk}{x:Eg}(h:sw s t x.1 x.2.1=some u)(hu:(u==x.2.2)=true):Gg s.1 s.2 t (x.2.1,x.1,false,x.2.2)=true:=by
 have hl:=Dz h;unfold sw at h;split at h
 ·rename_i hc;obtain⟨⟨hs,ht⟩,hi,hr⟩:=hc;obtain rfl:u=x.2.2:=by simpa using hu
  obtain⟨_,_,h3⟩:=nG.1 hs;obtain⟨hL,hR,_,hv⟩:=mX.1 (h3 _ (jP (show x.2.1.toNat<s.2.length by omega)));have wL:=(ig.1 hL).2.2.2;have wR:=(ig.1 hR).2.2.2;obtain⟨ha,_,_,wt⟩:=ig.1 ht;obtain⟨hm,_⟩:=Oa wL wR wt (show x.1.toNat<t.length by omega) hv h;have wu:=hm.wf wL wR wt;exact(KS (Q8 hs) ht).2 ⟨hr,hi.1,ig.2 ⟨ha,wu.len,hl,wu⟩,hm⟩
 ·cases h
def mo{α:Type}(p:α->Bool)(xs:List α):Int:=match xs.findIdx? p with|some j=>(j:Int)|none=> -1
theorem wK{α:Type}[Inhabited α]{xs:List α}{p:α->Bool}{f:Int->Option (Int⊕Int)}
 (h:∀(i:Nat)(x:α),i<xs.length->x∈xs->xs.getD i default=x->f (i:Int)=some (if p x=true then .inr (i:Int)else .inl ((i:Int)+1)))
 (he:f xs.length=some (.inr (-1))):g_ f 0=some (mo p xs):=by
 have key:∀(k i:Nat),i+k=xs.length->g_ f (i:Int)=some (match(xs.drop i).findIdx? p with|some j=>((i+j:Nat):Int)|none=> -1):=by
  intro k;induction k with
  |zero=>
   intro i hi;obtain rfl:i=xs.length:=by omega
   rw[ie he,fc];rfl
  |succ k ih=>
   intro i hi;have hlt:i<xs.length:=by omega
   have e:=h i _ hlt (bC hlt) (iy hlt);rw[aE hlt,List.findIdx?_cons];cases hp:p (xs[i])with
   |true=>rw[hp]at e;rw[ie e];simp
   |false=>
    rw[hp]at e;rw[iB e,show((i:Int)+1)=((i+1:Nat):Int) by omega,ih (i+1) gN];cases hf:(xs.drop (i+1)).findIdx? p with
    |none=>simp
    |some j=>
     simp only[aj,aF,aS];show some (((i+1+j:Nat):Int))=some (((i+(j+1):Nat):Int));rw[show i+1+j=i+(j+1) by omega]
 have:=key xs.length 0 gN;simp only[bG,cg]at this;exact this
theorem Kt{α:Type}{p:α->Bool}{xs:List α}: -1<=mo p xs/\mo p xs<xs.length:=by
 unfold mo;cases h:xs.findIdx? p with
 |none=>simp only;omega
 |some j=>have:=(List.findIdx?_eq_some_iff_getElem.1 h).1;simp only;omega
theorem A8{α:Type}{p:α->Bool}{xs:List α}(h:∀x∈xs,p x=false):mo p xs= -1:=by
 unfold mo;rw[eS.2 h]
theorem DK{α:Type}{p:α->Bool}{xs:List α}{x:α}(hx:x∈xs)(hp:p x=true):0<=mo p xs:=by
 unfold mo;cases h:xs.findIdx? p with
 |none=>have:=eS.1 h x hx;rw[hp]at this;cases this
 |some j=>simp only;omega
theorem ED{a p t:gk}{r:Bd×Bool}(h:rW (vV a p t jR) r):r.2=(vV a p t jR).isSome:=by
 cases hm:vV a p t jR with
 |none=>rw[hm]at h;exact h
 |some b=>rw[hm]at h;exact h.1
theorem sA{l:List gk}(hl:l.length<1099511627776)(hs:∀x∈l,Small x)(t:gk):k_ l t=some (mo (fun x=>x==t) l):=by
 unfold k_;refine wK (fun i x hi hx hg=>?_) (by simp[nc]);simp only[nc,show(i:Int)<l.length by omega,aR,aB,show(0:Int)<=i by omega,bK,au,hg,lX (n:=(i:Int)+1) gN gN,aS,um (hs x hx),aa];cases x==t<;>rfl
theorem DB{α:Type}{p:α->Bool}{xs:List α}:decide (0<=mo p xs)=xs.any p:=by
 cases h:xs.any p with
 |true=>
  obtain⟨x,hx,hp⟩:=dW.1 h;exact decide_eq_true (DK hx hp)
 |false=>
  rw[A8 (fun x hx=>by have:=fP.1 h x hx;simpa using this)];rfl
def LM(s:Sys)(t:gk)(i j:Nat):Bool:=(vV s.1 (s.2.getD j default).1 (at' s.1 t i) jR).isSome
theorem GD{s:Sys}{t u:gk}{i j:Nat}(h:ry s t i j=some u):LM s t i j=true:=by
 unfold ry CU at h;unfold LM;obtain⟨b,hb,_⟩:=ai.1 h;rw[hb];rfl
theorem Bo{s:Sys}{t:gk}{i rule:Nat}(hs:kB s=true)(ht:iX s.1 t=true)(hi:i<t.length)(hr:rule<s.2.length):rL s t i rule=some (LM s t i rule):=by
 obtain⟨ha,_,hrs⟩:=nG.1 hs;obtain⟨_,h1,h2,hw⟩:=ig.1 ht;obtain⟨p,u,q,rfl,rfl,hu⟩:=hw.place hi;have hL:=(mX.1 (hrs _ (jP hr))).1;have hm:∀x∈p++(u++q), -24<=x:=fun x hx=>(hw.all x hx).1
 have hul:u.length<=60:=by simp at h2;omega
 obtain⟨_,hL1,hL2,hL3⟩:=ig.1 hL;unfold rL LM qP;rw[ah gN,tG ha (by show List.length _<_;omega) hm bY hu,aa,au,yG hu];obtain⟨r,e⟩:=(tC ha hL3 hu hL2 hul).2 trivial;rw[e,aa,aa,ED ((tC ha hL3 hu hL2 hul).1 r e)]
theorem Uq{s:Sys}{t:gk}{i j:Nat}(hs:kB s=true)(ht:iX s.1 t=true)(hi:i<t.length)(hj:j<s.2.length)(hn:t.getD i default<0):LM s t i j=false:=by
 obtain⟨ha,_,hrs⟩:=nG.1 hs;obtain⟨_,h1,h2,hw⟩:=ig.1 ht;obtain⟨p,u,q,rfl,rfl,hu⟩:=hw.place hi;obtain⟨hL,_,hh,_⟩:=mX.1 (hrs _ (jP hj));obtain⟨_,hL1,hL2,hL3⟩:=ig.1 hL;unfold LM;rw[yG hu];obtain⟨x,r,rfl,_,_⟩:=hu.pos;have hx:x<0:=by
  have e:(p++(x::r++q)).getD p.length default=x:=by simp[av]
  rwa [e]at hn
 generalize(s.2.getD j default).1=l at *;obtain⟨y,k,rfl,_,_⟩:=hL3.pos;have hy:¬y<0:=by simpa using hh
 rw[BE hy,ak gN];rfl
def tr(s:Sys)(t:gk)(js:List Nat)(i:Nat):List Eg:=js.filterMap fun j=>(ry s t i j).map fun u=>((i:Int),(j:Int),u)
def LN(s:Sys)(t:gk):List Eg:=(List.range t.length).flatMap (tr s t (List.range s.2.length))
def U6(s:Sys)(t:gk)(js:List Nat)(i:Nat):Bool:=js.any fun j=>LM s t i j&&(ry s t i j).isNone
def Ws(s:Sys)(t:gk):Bool:=(List.range t.length).any (U6 s t (List.range s.2.length))
def Yi(s:Sys)(t:gk)(js:List Nat)(i:Nat):Nat:=(js.filter (LM s t i)).length
theorem Uu{s:Sys}{t:gk}{i:Nat}:∀js:List Nat,(tr s t js i).length<=Yi s t js i/\(U6 s t js i=true<->(tr s t js i).length<Yi s t js i)
 |[]=>by simp[tr,Yi,U6]
 |j::js=>by
  obtain⟨h1,h2⟩:=Uu (s:=s) (t:=t) (i:=i) js;unfold tr Yi U6 at *;rw[List.filterMap_cons,dA,eU];cases hq:ry s t i j with
  |some u=>
   have:=GD hq;simp only[aS,this,aB,aQ,Option.isNone_some,Bool.and_false,Bool.false_or];exact⟨gN,h2.trans gN⟩
  |none=>
   cases hr:LM s t i j with
   |true=>simp;omega
   |false=>simp only[eJ,aj,aF,Bool.false_and,Bool.false_or];exact⟨h1,h2⟩
theorem D7{s:Sys}{t:gk}{js:List Nat}{i:Nat}:(tr s t js i).length<=js.length:=List.length_filterMap_le _ _
theorem BL{s:Sys}{t:gk}(hs:kB s=true)(ht:iX s.1 t=true):∀{n:Nat},n<=t.length->((List.range n).flatMap (tr s t (List.range s.2.length))).length<=n*12
 |0,_=>by simp
 |n+1,h=>by
  have:=BL hs ht (n:=n) gN;have h2:=D7 (s:=s) (t:=t) (js:=List.range s.2.length) (i:=n);have h3:=(nG.1 hs).2.1;rw[f_,List.flatMap_append,aq];simp only[List.length_range]at h2;simp only[cY,List.flatMap_nil,aV];omega
theorem Im{s:Sys}{t:gk}{i n:Nat}:tr s t (List.range (n+1)) i=tr s t (List.range n) i++(match ry s t i n with|some u=>[((i:Int),(n:Int),u)]|none=>[]):=by
 unfold tr;rw[f_,List.filterMap_append];congr 1;cases h:ry s t i n<;>simp[h]
theorem zw{s:Sys}{t:gk}(hs:kB s=true)(ht:iX s.1 t=true):p_ s t=some (LN s t):=by
 obtain⟨_,hn,_⟩:=nG.1 hs;obtain⟨_,h1,h60,_⟩:=ig.1 ht;unfold p_;have A:=pN (n:=t.length) (fun i=>((List.range i).flatMap (tr s t (List.range s.2.length)),(i:Int))) (c:=LN s t) (f:=nM s t) (fun i hi=>by
  have hlen:=BL hs ht (n:=i) gN;generalize hO:(List.range i).flatMap (tr s t (List.range s.2.length))=o at hlen;have B:=pN (n:=s.2.length) (fun j=>(o++tr s t (List.range j) i,(j:Int))) (c:=.inl (o++tr s t (List.range s.2.length) i,((i:Int)+1))) (f:=nN s t (i:Int)) (fun j hj=>by
   have hr:=D7 (s:=s) (t:=t) (js:=List.range j) (i:=i);rw[List.length_range]at hr;unfold nN;simp only;rw[ah (by simpa using hj),Aq hs ht hi hj,aa,lX gN gN,Im];cases hq:ry s t i j with
   |none=>simp[sx]
   |some u=>
    simp only[sx,aB];rw[ah (by simp only[aq];omega),aG];rfl) (by
   unfold nN;simp only;rw[ak (by simp),lX gN gN];rfl)
  simp only[List.range_zero]at B;have e0:tr s t [] i=[]:=rfl;rw[e0,aV]at B;unfold nM;simp only;rw[ah (by simpa using hi),show((0:Nat):Int)=0 from rfl]at *;rw[B,f_,List.flatMap_append,hO];simp) (by
  unfold nM;simp only;rw[ak (by simp)];rfl)
 simpa using A
def Vm(s:Sys)(t:gk)(i j:Nat):xk:=(((i:Int),(j:Int),(sx (ry s t i j)).1),(sx (ry s t i j)).2)
theorem MH{s:Sys}{t u:gk}{i j:Nat}(h:ry s t i j=some u):Vm s t i j=(((i:Int),(j:Int),u),true):=by unfold Vm;rw[h];rfl
theorem MG{s:Sys}{t:gk}{i j:Nat}(h:ry s t i j=none):(Vm s t i j).2=false:=by unfold Vm;rw[h];rfl
def RJ(s:Sys)(t:gk)(js:List Nat)(i:Nat):List xk:=(js.filter (LM s t i)).map (Vm s t i)
theorem CO{s:Sys}{t:gk}{i:Nat}(hs:kB s=true)(ht:iX s.1 t=true)(hi:i<t.length):∀k,k<=s.2.length->sY s t i k=some (RJ s t (List.range' (s.2.length-k) k) i)
 |0,_=>rfl
 |k+1,hk=>by
  have ih:=CO hs ht hi k gN;have e:List.range' (s.2.length-(k+1)) (k+1)=(s.2.length-(k+1))::List.range' (s.2.length-k) k:=by rw[dL];congr 2;omega
  unfold sY;rw[e];have hr:s.2.length-(k+1)<s.2.length:=by omega
  by_cases hn:t.getD i default<0
  ·rw[ah (by simpa using hn),ih];unfold RJ;rw[dA,Uq hs ht hi hr hn];rfl
  ·rw[ak (by simpa using hn),Bo hs ht hi hr,aa];unfold RJ;rw[dA];cases hq:LM s t i (s.2.length-(k+1))with
   |false=>simp only[aj,aF];exact ih
   |true=>
    simp only[aB];rw[BR hs ht hi hr,aa,ih];rfl
theorem Bc{s:Sys}{t:gk}(hs:kB s=true)(ht:iX s.1 t=true):∀k,k<=t.length->uI s t k=some ((List.range' (t.length-k) k).flatMap (RJ s t (List.range s.2.length)))
 |0,_=>rfl
 |k+1,hk=>by
  have ih:=Bc hs ht k gN;have e:List.range' (t.length-(k+1)) (k+1)=(t.length-(k+1))::List.range' (t.length-k) k:=by rw[dL];congr 2;omega
  unfold uI;rw[e,CO hs ht gN _ (aC _),aa,ih,cL,<-dI];rfl
def Kq(s:Sys)(t:gk):List xk:=(List.range t.length).flatMap (RJ s t (List.range s.2.length))
theorem Dc{s:Sys}{t:gk}(hs:kB s=true)(ht:iX s.1 t=true):wo s t=some (Kq s t):=by
 unfold wo Kq;rw[Bc hs ht _ (aC _),cL,<-dI]
theorem MI{s:Sys}{t:gk}{i:Nat}:∀js:List Nat,((RJ s t js i).filter (·.2)).map (·.1)=tr s t js i/\(RJ s t js i).any (fun x=>!x.2)=U6 s t js i
 |[]=>⟨rfl,rfl⟩
 |j::js=>by
  obtain⟨h1,h2⟩:=MI (s:=s) (t:=t) (i:=i) js;unfold RJ tr U6 at *;rw[dA,List.filterMap_cons,eU];cases hq:ry s t i j with
  |some u=>simp only[GD hq,aB,aN,dA,eU,MH hq,h1,h2,aS,Option.isNone_some,Bool.and_false,Bool.not_true,Bool.false_or,bK]
  |none=>cases hr:LM s t i j<;>simp[MG hq,h1,h2]
theorem Hv(s:Sys)(t:gk):((Kq s t).filter (·.2)).map (·.1)=LN s t/\(Kq s t).any (fun x=>!x.2)=Ws s t:=by
 unfold Kq LN Ws;generalize List.range t.length=is;induction is with
 |nil=>exact⟨rfl,rfl⟩
 |cons i is ih=>
  obtain⟨h1,h2⟩:=MI (s:=s) (t:=t) (i:=i) (List.range s.2.length);simp only[cY,fI,aP,List.any_append,eU,h1,h2,ih.1,ih.2,bK]
theorem K_{α:Type}[Inhabited α]{xs:List α}{i:Nat}(h:i<xs.length):xs.take (i+1)=xs.take i++[xs.getD i default]:=by rw[bM h,iy h]
theorem yz{s:Sys}{t:gk}(hs:kB s=true)(ht:iX s.1 t=true):oh s t=some (LN s t,Ws s t):=by
 unfold oh;rw[show rM s t=some ()from rfl,aa,Dc hs ht,aa];have hb:∀j,(((Kq s t).take j).filter (·.2)).length<=720:=fun j=>by
  have h1:(((Kq s t).take j).filter (·.2)).length<=((Kq s t).filter (·.2)).length:=((List.take_sublist _ _).filter _).length_le;have h2:=bX List.length (Hv s t).1;rw[aK]at h2;have h3:=BL hs ht (n:=t.length) (aC _);have h4:=(ig.1 ht).2.2.1;unfold LN at h2;omega
 have A:=pN (n:=(Kq s t).length) (fun j=>(j,(((Kq s t).take j).filter (·.2)).map (·.1),((Kq s t).take j).any (fun x=>!x.2))) (c:=(LN s t,Ws s t)) (f:=kI (Kq s t)) (fun j hj=>by
  have h0:=hb j;unfold kI;simp only;rw[ah hj,K_ hj];generalize(Kq s t).getD j default=x;cases hx:x.2 with
  |true=>
   simp only[aB];rw[ah (by rw[aK];omega),fI,aP,List.any_append];simp[hx]
  |false=>
   simp[hx]) (by
  unfold kI;simp only;rw[ak (eB _),cz,(Hv s t).1,(Hv s t).2];rfl)
 simpa using A
theorem Q7{s:Sys}{t u:gk}{i j:Nat}(hs:kB s=true)(ht:iX s.1 t=true)(hi:i<t.length)(hj:j<s.2.length)(h:ry s t i j=some u):iX s.1 u=true:=by
 have hst:sw s t (i:Int) (j:Int)=some u:=by
  unfold sw;rw[ah ⟨⟨hs,ht⟩,⟨gN,gN⟩,gN,gN⟩];exact h
 exact Nr (m:=((j:Int),(i:Int),false,u)) (GC (x:=((i:Int),(j:Int),u)) hst (by simp))
theorem UM{s:Sys}{t:gk}(hs:kB s=true)(ht:iX s.1 t=true):∀x∈LN s t,iX s.1 x.2.2=true:=fun x hx=>by
 obtain⟨i,hi,hx⟩:=e_.1 hx;obtain⟨j,hj,hx⟩:=List.mem_filterMap.1 hx;obtain⟨u,hu,rfl⟩:=ay.1 hx;exact Q7 hs ht (cW.1 hi) (cW.1 hj) hu
theorem SY{a t:gk}(h:iX a t=true):t.length<=60:=(ig.1 h).2.2.1
theorem Q6{s:Sys}{t:gk}(hs:kB s=true)(ht:iX s.1 t=true):(LN s t).length<=720:=by
 have h3:=BL hs ht (n:=t.length) (aC _);have h4:=SY ht;unfold LN;omega
def zh(s:Sys)(t:gk)(steps:Int):Bool:=kB s&&(iX s.1 t&&decide (0<=steps/\steps<=20))
theorem zi{s:Sys}{t:gk}{steps:Int}:zh s t steps=true<->kB s=true/\iX s.1 t=true/\0<=steps/\steps<=20:=by simp[zh]
def PO(steps:Int):Bool:=decide (0<=steps)&&decide (steps<=20)
theorem PR{steps:Int}:PO steps=true<->0<=steps/\steps<=20:=by simp[PO]
abbrev I6:=gk×Int×Int×Int×gk×Int
theorem tB{all:List I6}{t:gk}(hl:all.length<=60)(hs:∀r∈all,Small r.1):qi all t=some (mo (fun r:I6=>r.1==t) all):=by
 unfold qi
 suffices h:iJ all t=some (mo (fun r:I6=>r.1==t) all) by rw[h];rfl
 unfold iJ;refine wK (fun i x hi hx hg=>?_) (by simp[iP]);simp only[iP,show(i:Int)<all.length by omega,aR,aB,show(0:Int)<=i by omega,bK,au,hg,lX (n:=(i:Int)+1) gN gN,aS,rI,rN (hs x hx),aa];cases x.1==t<;>rfl
theorem O1{l:LL}{t:gk}:(l.any fun x=>x==t)=decide (t∈l):=by
 rw[gb,dW,decide_eq_true_iff];exact⟨fun⟨x,hx,he⟩=>by rw[<-bF.1 he];exact hx,fun h=>⟨t,h,bF.2 rfl⟩⟩
theorem uC{α β:Type}[Inhabited α][Inhabited β]{xs:List α}{g:α->β}{i:Nat}(h:i<xs.length):(xs.map g).getD i default=g (xs.getD i default):=by rw[iy (by simpa using h),iy h,List.getElem_map]
theorem uS(s:Sys)(t:gk)(steps:Int):ox s t steps=some (zh s t steps):=by
 unfold ox rU zh;rw[uo,aa];cases hs:kB s with
 |false=>simp
 |true=>
  simp only[aB,sL,aa,cj];cases iX s.1 t with
  |false=>simp
  |true=>simp[kH]
def xl(A:List I6)(j:Nat):I6:=A.getD j default
structure Rec(s:Sys)(steps:Int)(A:List I6)(j:Nat)(x:I6):Prop where
 tm:iX s.1 x.1=true
 ds:0<=x.2.2.2.2.2/\x.2.2.2.2.2<=steps
 root:j=0->x.2.1= -1
 up:0<j->∃p:Nat,x.2.1=(p:Int)/\p<j/\sw s (xl A p).1 x.2.2.1 x.2.2.2.1=some x.1/\x.2.2.2.2.1=x.1
structure R6(s:Sys)(steps:Int)(A:List I6):Prop where
 pos:0<A.length
 len:A.length<=60
 el:∀j,j<A.length->Rec s steps A j (xl A j)
theorem yd{A B:List I6}{j:Nat}(h:j<A.length):xl (A++B) j=xl A j:=by unfold xl;rw[av,aT h,<-av]
theorem R6.push{s:Sys}{steps:Int}{A:List I6}(h:R6 s steps A)(hl:A.length<60){x:I6}(ht:iX s.1 x.1=true)(hd:0<=x.2.2.2.2.2/\x.2.2.2.2.2<=steps){p:Nat}(hp:p<A.length)(e:x.2.1=(p:Int))(hs:sw s (xl A p).1 x.2.2.1 x.2.2.2.1=some x.1)(ho:x.2.2.2.2.1=x.1):R6 s steps (A++[x]):=by
 have hpos:=h.pos;refine⟨by simp,by rw[aq,aY];omega,fun j hj=>?_⟩;rw[aq,aY]at hj;by_cases c:j<A.length
 ·rw[yd c];obtain⟨k1,k2,k3,k4⟩:=h.el j c;refine⟨k1,k2,k3,fun h0=>?_⟩;obtain⟨q,q1,q2,q3,q4⟩:=k4 h0;exact⟨q,q1,q2,by rw[yd gN];exact q3,q4⟩
 ·have hj':j=A.length:=by omega
  subst hj';have e2:xl (A++[x]) A.length=x:=by unfold xl;rw[av,bz (aC _)];simp
  rw[e2];exact⟨ht,hd,fun c=>by omega,fun _=>⟨p,e,hp,by rw[yd hp];exact hs,ho⟩⟩
abbrev m1(A:List I6):LL:=A.map fun x=>x.1
abbrev m2(A:List I6):gk:=A.map fun x=>x.2.1
abbrev m3(A:List I6):List Eg:=A.map fun x=>(x.2.2.1,x.2.2.2.1,x.2.2.2.2.1)
abbrev m4(A:List I6):gk:=A.map fun x=>x.2.2.2.2.2
theorem R6.sm{s:Sys}{steps:Int}{A:List I6}(h:R6 s steps A):∀r∈A,r.1.length<=60:=fun r hr=>by
 obtain⟨j,hj,e⟩:=List.getElem_of_mem hr;have:=(h.el j hj).tm;unfold xl at this;rw[iy hj,e]at this;exact(ig.1 this).2.2.1
theorem Ts{A:List I6}{t:gk}:(A.any fun r:I6=>r.1==t)=decide (t∈m1 A):=by
 rw[gb,dW,decide_eq_true_iff];exact⟨fun⟨x,hx,he⟩=>bw.2 ⟨x,hx,bF.1 he⟩,fun h=>by
  obtain⟨x,hx,e⟩:=bw.1 h;exact⟨x,hx,bF.2 e⟩⟩
theorem O_{s:Sys}{steps d:Int}(h20:steps<=20)(hd:0<=d/\d<steps){L:List Eg}(hL:L.length<=720){b0:Bool}{k:Nat}{t:gk}(hT:∀x∈L,iX s.1 x.2.2=true/\sw s t x.1 x.2.1=some x.2.2):∀(r:List Eg){i:Nat}{A:List I6},
 L.drop i=r->k<A.length->(xl A k).2.2.2.2.2=d->(xl A k).1=t->R6 s steps A->
 ∃A' b,R6 s steps A'/\k<A'.length/\A.length<=A'.length/\xl A' 0=xl A 0/\
  g_ (ny (k:Int) (L,b0)) (A,(i:Int))=some (if b=true then .inl (A',(k:Int)+1)else .inr (A',false))/\
  g_ (mF (k:Int) L) ((i:Int),m1 A,m2 A,m3 A,m4 A)=some (if b=true then .inl ((k:Int)+1,m1 A',m2 A',m3 A',m4 A')else .inr (m1 A',m2 A',m3 A',m4 A',false)):=by
 intro r;induction r with
 |nil=>
  intro i A he hk hq ht h;have hn:L.length<=i:=by simpa using he
  have hl:=h.len;refine⟨A,true,h,hk,aC _,rfl,ie ?_,ie ?_⟩
  ·simp only[ny,show ¬(i:Int)<L.length by omega,aW,aj,aF,aS,aB,lX (n:=(k:Int)+1) gN gN]
  ·simp only[mF,show ¬(i:Int)<L.length by omega,aW,aj,aF,aS,aB,lX (n:=(k:Int)+1) gN gN]
 |cons x r ih=>
  intro i A he hk hq ht h;obtain⟨h1,h2,h3⟩:=drop_cons he;obtain⟨hx,hxs⟩:=hT x (by rw[<-h2];exact jP h1);have hl:=h.len;have hsm0:=h.sm;have Dl:∀r∈A,Small r.1:=fun r hr=>by have:=hsm0 r hr;show r.1.length<_;omega
  have hsm1:∀t∈m1 A,Small t:=fun t ht=>by
   obtain⟨y,hy,rfl⟩:=bw.1 ht;exact Dl y hy
  have hfd:=tB (t:=x.2.2) hl Dl;have hfs:=sA (l:=m1 A) (by simp;omega) hsm1 x.2.2;have ha1:decide (0<=mo (fun r:I6=>r.1==x.2.2) A)=decide (x.2.2∈m1 A):=by rw[DB,Ts]
  have ha2:decide (0<=mo (fun y=>y==x.2.2) (m1 A))=decide (x.2.2∈m1 A):=by rw[DB,O1]
  have hq':(A.getD k default).2.2.2.2.2=d:=hq;have hgd:(m4 A).getD k default=d:=by rw[uC hk];exact hq
  have b1:ny (k:Int) (L,b0) (A,(i:Int))=some (if x.2.2∈m1 A then .inl (A,(i:Int)+1)else if A.length=60 then .inr (.inr (A,false))else .inl (A++[(x.2.2,(k:Int),x.1,x.2.1,x.2.2,d+1)],(i:Int)+1)):=by
   simp only[ny,show(i:Int)<L.length by omega,aR,aB,show(0:Int)<=i by omega,bK,au,h2,hfd,aa,ha1,lX (n:=(i:Int)+1) gN gN,show(0:Int)<=k by omega,show(k:Int)<A.length by omega,hq',lX (n:=d+1) gN gN,show(A.length+1)*80<=140737488355328 by omega];by_cases hm:x.2.2∈m1 A
   ·simp[hm]
   ·simp only[hm,aW,aj,aF];by_cases h60:A.length=60
    ·rw[ah (by simpa using(by omega:(A.length:Int)=60)),ah h60];rfl
    ·rw[ak (by simpa using(by omega:(A.length:Int)≠60)),ak h60]
  have b2:mF (k:Int) L ((i:Int),m1 A,m2 A,m3 A,m4 A)=some (if x.2.2∈m1 A then .inl ((i:Int)+1,m1 A,m2 A,m3 A,m4 A)else if A.length=60 then .inr (.inr (m1 A,m2 A,m3 A,m4 A,false))else .inl ((i:Int)+1,m1 A++[x.2.2],m2 A++[(k:Int)],m3 A++[(x.1,x.2.1,x.2.2)],m4 A++[d+1])):=by
   simp only[mF,show(i:Int)<L.length by omega,aR,aB,show(0:Int)<=i by omega,bK,au,h2,hfs,aa,ha2,lX (n:=(i:Int)+1) gN gN,show(0:Int)<=k by omega,aK,show(k:Int)<A.length by omega,hgd,lX (n:=d+1) gN gN,show(A.length+1)*24<=140737488355328 by omega,show(A.length+1)*8<=140737488355328 by omega,show(A.length+1)*40<=140737488355328 by omega];by_cases hm:x.2.2∈m1 A
   ·simp[hm]
   ·simp only[hm,aW,aj,aF];by_cases h60:A.length=60
    ·rw[ah (by simpa using(by omega:(A.length:Int)=60)),ah h60];rfl
    ·rw[ak (by simpa using(by omega:(A.length:Int)≠60)),ak h60]
  by_cases hm:x.2.2∈m1 A
  ·rw[ah hm]at b1 b2;obtain⟨A',b,q1,q2,q3,q4,q5,q6⟩:=ih (i:=i+1) h3 hk hq ht h;exact⟨A',b,q1,q2,q3,q4,(iB b1).trans q5,(iB b2).trans q6⟩
  ·rw[ak hm]at b1 b2;by_cases h60:A.length=60
   ·rw[ah h60]at b1 b2;exact⟨A,false,h,hk,aC _,rfl,ie b1,ie b2⟩
   ·rw[ak h60]at b1 b2;have hn:=h.push gN (x:=(x.2.2,(k:Int),x.1,x.2.1,x.2.2,d+1)) hx ⟨by simp;omega,by simp;omega⟩ hk rfl (by rw[ht];exact hxs) rfl;obtain⟨A',b,q1,q2,q3,q4,q5,q6⟩:=ih (i:=i+1) (A:=A++[(x.2.2,(k:Int),x.1,x.2.1,x.2.2,d+1)]) h3 (by simp;omega) (by rw[yd hk];exact hq) (by rw[yd hk];exact ht) hn;rw[aq,aY]at q3;refine⟨A',b,q1,q2,gN,by rw[q4,yd h.pos],(iB b1).trans q5,(iB b2).trans ?_⟩;have e:(m1 A++[x.2.2],m2 A++[(k:Int)],m3 A++[(x.1,x.2.1,x.2.2)],m4 A++[d+1])=(m1 (A++[(x.2.2,(k:Int),x.1,x.2.1,x.2.2,d+1)]),m2 (A++[(x.2.2,(k:Int),x.1,x.2.1,x.2.2,d+1)]),m3 (A++[(x.2.2,(k:Int),x.1,x.2.1,x.2.2,d+1)]),m4 (A++[(x.2.2,(k:Int),x.1,x.2.1,x.2.2,d+1)])):=by simp
    rw[e];exact q6
theorem N9{s:Sys}{t:gk}(hs:kB s=true)(ht:iX s.1 t=true):∀x∈LN s t,iX s.1 x.2.2=true/\sw s t x.1 x.2.1=some x.2.2:=fun x hx=>by
 refine⟨UM hs ht x hx,?_⟩;obtain⟨i,hi,hx⟩:=e_.1 hx;obtain⟨j,hj,e⟩:=List.mem_filterMap.1 hx;obtain⟨u,hu,rfl⟩:=ay.1 e;have hi':=cW.1 hi;have hj':=cW.1 hj;simp only;unfold sw;simp only[hs,ht,au];simp[hu,hi',hj']
theorem Ek{s:Sys}{steps:Int}(hs:kB s=true)(h20:0<=steps/\steps<=20):∀(f:Nat){k:Nat}{A:List I6},61<=k+f->k<=A.length->R6 s steps A->
 ∃A' b,R6 s steps A'/\xl A' 0=xl A 0/\g_ (lT s steps) (A,(k:Int))=some (A',b)/\g_ (lg s steps) ((k:Int),m1 A,m2 A,m3 A,m4 A)=some (m1 A',m2 A',m3 A',m4 A',b)
 |0,k,A,hf,hk,h=>by
  have:=h.len;omega
 |f+1,k,A,hf,hk,h=>by
  have hl:=h.len;by_cases hlt:k<A.length
  ·have hrec:=h.el k hlt;have ge1:(m1 A).getD k default=(A.getD k default).1:=uC (g:=fun x:I6=>x.1) hlt;have ge4:(m4 A).getD k default=(A.getD k default).2.2.2.2.2:=uC (g:=fun x:I6=>x.2.2.2.2.2) hlt;have htm:iX s.1 (A.getD k default).1=true:=hrec.tm;have hds:0<=(A.getD k default).2.2.2.2.2/\(A.getD k default).2.2.2.2.2<=steps:=hrec.ds;by_cases hst:(A.getD k default).2.2.2.2.2=steps
   ·obtain⟨A',b,q1,q2,q3,q4⟩:=Ek hs h20 f (k:=k+1) gN gN h;refine⟨A',b,q1,q2,(iB ?_).trans q3,(iB ?_).trans q4⟩
    ·simp only[lT,show(k:Int)<A.length by omega,aR,aB,show(0:Int)<=k by omega,bK,au,hst,cF,lX (n:=(k:Int)+1) gN gN];rfl
    ·simp only[lg,aK,show(k:Int)<A.length by omega,aR,aB,show(0:Int)<=k by omega,bK,au,ge4,hst,cF,lX (n:=(k:Int)+1) gN gN];rfl
   ·have hne:((A.getD k default).2.2.2.2.2==steps)=false:=by simpa using hst
    obtain⟨A1,b,q1,q2,q3,q4,q5,q6⟩:=O_ (s:=s) (b0:=Ws s (A.getD k default).1) h20.2 (d:=(A.getD k default).2.2.2.2.2) ⟨hds.1,gN⟩ (Q6 hs htm) (N9 hs htm) (LN s (A.getD k default).1) (i:=0) rfl hlt rfl rfl h;have c1:lT s steps (A,(k:Int))=some (if b=true then .inl (A1,(k:Int)+1)else .inr (A1,false)):=by
     simp only[lT,show(k:Int)<A.length by omega,aR,aB,show(0:Int)<=k by omega,bK,au,hne,aj,aF,yz hs htm,aa];exact q5
    have c2:lg s steps ((k:Int),m1 A,m2 A,m3 A,m4 A)=some (if b=true then .inl ((k:Int)+1,m1 A1,m2 A1,m3 A1,m4 A1)else .inr (m1 A1,m2 A1,m3 A1,m4 A1,false)):=by
     simp only[lg,aK,show(k:Int)<A.length by omega,aR,aB,show(0:Int)<=k by omega,bK,au,ge1,ge4,hne,aj,aF,zw hs htm,aa];exact q6
    cases b with
    |true=>
     obtain⟨A',b',r1,r2,r3,r4⟩:=Ek hs h20 f (k:=k+1) (A:=A1) gN gN q1;exact⟨A',b',r1,by rw[r2,q4],(iB c1).trans r3,(iB c2).trans r4⟩
    |false=>exact⟨A1,false,q1,q4,ie c1,ie c2⟩
  ·refine⟨A,true,h,rfl,ie ?_,ie ?_⟩
   ·simp only[lT,show ¬(k:Int)<A.length by omega,aW,aj,aF,aS]
   ·simp only[lg,aK,show ¬(k:Int)<A.length by omega,aW,aj,aF,aS]
theorem B5{s:Sys}{t:gk}{steps:Int}(h:zh s t steps=true):∃A b,R6 s steps A/\(xl A 0).1=t/\qk s t steps=some (A,b)/\pg s t steps=some (m1 A,m2 A,m3 A,m4 A,b):=by
 obtain⟨h1,h2,h3⟩:=zi.1 h;have Dl:=SY h2;have r0:R6 s steps [(t, -1,0,0,[],0)]:=⟨by simp,by simp,fun j hj=>by
  have:j=0:=by simpa using hj
  subst this;exact⟨h2,⟨eE _,h3.1⟩,fun _=>rfl,fun c=>by omega⟩⟩
 obtain⟨A,b,q1,q2,q3,q4⟩:=Ek h1 h3 61 (k:=0) (A:=[(t, -1,0,0,[],0)]) gN (by simp) r0;refine⟨A,b,q1,by rw[q2];rfl,?_,?_⟩
 ·unfold qk;rw[pI (l:=t) (by show t.length<_;omega),aa];exact q3
 ·unfold pg;rw[mE (l:=t) (by show t.length<_;omega),aa];exact q4
def X4(x:I6):Eg:=(x.2.2.1,x.2.2.2.1,x.2.2.2.2.1)
def J6(A:List I6):Nat->Nat->List Eg
 |0,_=>[]
 |f+1,j=>if j=0 then []else X4 (xl A j)::J6 A f (xl A j).2.1.toNat
end Go.Proofs.YtjgbnaihpicpgaaGreatDoor
