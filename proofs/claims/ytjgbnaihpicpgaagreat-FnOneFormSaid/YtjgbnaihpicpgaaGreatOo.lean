/- A part of the proof about FnOneForm (PA, XL, KG, PB, PC, U4, V4, TA, TB, TC, UI, UA, UB, VN). -/
import Derived.Test.YtjgbnaihpicpgaaGreatOg
import Derived.Test.YtjgbnaihpicpgaaGreatOn
set_option linter.all false
namespace Go.Proofs.YtjgbnaihpicpgaaGreat
open Go ng Tm
theorem lz{n:Int}(h1: -9223372036854775808<=n)(h2:n<9223372036854775808):IntKind.i64.wrap n=n:=by rw[wrap_i64 h1 h2]
theorem iI{α:Type}[Inhabited α]{xs:List α}{i:Nat}(h:i<xs.length):xs.getD i default=xs[i]:=by simp[List.getD_eq_getElem?_getD,az h]
theorem jB{α:Type}[Inhabited α]{xs:List α}{i:Nat}(h:i<xs.length):xs.getD i default∈xs:=by rw[iI h];exact bB h
theorem qA{α:Type}[Inhabited α]{xs:List α}{p:α->Bool}{f:Int->Option gO}
 (h:∀(i:Nat)(x:α),i<xs.length->(i:Int)<xs.length->x∈xs->xs.getD i default=x->f i=some (if p x=true then .inl ((i:Int)+1)else .inr false)) (he:f xs.length=some (.inr true)):iB f 0=some (xs.all p):=by
 have key:∀k i:Nat,i+k=xs.length->iB f (i:Int)=some ((xs.drop i).all p):=by
  intro k;induction k with
  |zero=>
   intro i hi;obtain rfl:i=xs.length:=by omega
   rw[iL he];simp
  |succ k ih=>
   intro i hi;have hlt:i<xs.length:=by omega
   have e:=h i _ hlt h_ (bB hlt) (iI hlt);rw[aE hlt,dG];cases hp:p xs[i]with
   |true=>
    rw[hp,ah rfl]at e;rw[iW e];have:=ih (i+1) h_;rw[show((i:Int)+1)=((i+1:Nat):Int) by omega,this];simp
   |false=>
    rw[hp]at e;simp only[ak,aB]at e;rw[iL e];simp
 simpa using key xs.length 0 h_
theorem GP{α β:Type}[Inhabited α]{xs:List α}{p:α->Bool}{f:Int->Option (Int⊕β)}{y n:β}
 (h:∀(i:Nat)(x:α),i<xs.length->(i:Int)<xs.length->x∈xs->xs.getD i default=x->f i=some (if p x=true then .inr y else .inl ((i:Int)+1))) (he:f xs.length=some (.inr n)):
 iB f 0=some (if xs.any p=true then y else n):=by
 have key:∀k i:Nat,i+k=xs.length->iB f (i:Int)=some (if(xs.drop i).any p=true then y else n):=by
  intro k;induction k with
  |zero=>
   intro i hi;obtain rfl:i=xs.length:=by omega
   rw[iL he];simp
  |succ k ih=>
   intro i hi;have hlt:i<xs.length:=by omega
   have e:=h i _ hlt h_ (bB hlt) (iI hlt);rw[aE hlt,e_];cases hp:p xs[i]with
   |false=>
    rw[hp]at e;simp only[ak,aB]at e;rw[iW e];have:=ih (i+1) h_;rw[show((i:Int)+1)=((i+1:Nat):Int) by omega,this];simp
   |true=>
    rw[hp,ah rfl]at e;rw[iL e];simp
 simpa using key xs.length 0 h_
abbrev Small{α:Type}(xs:List α):Prop:=xs.length<1099511627776
def Qa(n:Int):Bool:=decide (0<=n)&&decide (n<=3)
def ku(a:gB):Bool:=decide (1<=a.length)&&decide (a.length<=8)&&a.all Qa
theorem w_{a:gB}:ku a=true<->1<=a.length/\a.length<=8/\∀n∈a,0<=n/\n<=3:=by simp[ku,Qa,and_assoc]
theorem lE(x lo hi:Int):k_ x lo hi=some (decide (lo<=x)&&decide (x<=hi)):=by
 unfold k_;by_cases h1:lo<=x<;>by_cases h2:x<=hi<;>simp[h1,h2]
theorem xJ(a:gB):qE a=some (ku a):=by
 unfold qE;by_cases h1:(a.length:Int)<1
 ·have:¬1<=a.length:=by omega
  simp[h1,ku,this]
 ·by_cases h2:8<(a.length:Int)
  ·have:¬a.length<=8:=by omega
   simp[h1,h2,ku,this]
  ·have e1:1<=a.length:=by omega
   have e2:a.length<=8:=by omega
   simp only[h1,h2,aU,ak,aB,ku,e1,e2,aQ,bP];refine qA (fun i x hi hi' _ hx=>?_) (by simp[rM]);have hw:IntKind.i64.wrap ((i:Int)+1)=i+1:=lz h_ h_;simp only[rM,hi',aQ,aC,au,hw,show(0:Int)<=i by omega,bE,Qa,hx];by_cases c1:x<0
   ·simp[c1,show ¬0<=x by omega]
   ·by_cases c2:3<x
    ·simp[c1,c2,show ¬x<=3 by omega]
    ·simp[c1,c2,show 0<=x by omega,show x<=3 by omega]
theorem xL(a:gB):qL a=some (ku a):=by
 unfold qL;simp only[lE,aa];by_cases h:1<=a.length/\a.length<=8
 ·have e1:(1:Int)<=a.length:=by omega
  have e2:(a.length:Int)<=8:=by omega
  simp only[e1,e2,aQ,eA,aC,ku,h.1,h.2,bP];refine qA (fun i x hi hi' _ hx=>?_) (by simp[rQ]);have hw:IntKind.i64.wrap ((i:Int)+1)=i+1:=lz h_ h_;simp only[rQ,hi',aQ,aC,au,hw,show(0:Int)<=i by omega,bE,Qa,hx,lE,aa];by_cases h3:0<=x<;>by_cases h4:x<=3<;>simp[h3,h4]
 ·have:(decide ((1:Int)<=a.length)&&decide ((a.length:Int)<=8))=false:=by simp;omega
  rw[this];have:ku a=false:=by
   cases hs:ku a with
   |false=>rfl
   |true=>have:=w_.1 hs;omega
  simp[this]
theorem xK{x:gB}(h0:0<x.length)(hs:Small x):jN True (jU x) fun m=>∀b,b<=m<->∀y∈x,b<=y:=by
 unfold jU;have h1:¬(x.length:Int)<1:=by omega
 have h2:(0:Int)<x.length:=by omega
 simp only[h1,h2,aU,ak,aB,eB,bE,aC];refine jN.loop (fun s:Int×Int=>∃i:Nat,s.2=(i:Int)/\1<=i/\i<=x.length/\∀b,b<=s.1<->∀y∈x.take i,b<=y) (fun s:Int×Int=>x.length-s.2.toNat) ⟨1,rfl,aA _,h_,fun b=>?_⟩ ?_
 ·cases x with
  |nil=>simp at h0
  |cons y x=>simp
 ·rintro⟨m,i'⟩ ⟨i,rfl,h3,h4,h5⟩;simp only[mR]at h5⊢;by_cases hi:i<x.length
  ·have hi':(i:Int)<x.length:=by omega
   have hw:IntKind.i64.wrap ((i:Int)+1)=i+1:=lz h_ h_;simp only[hi',aQ,aC,show(0:Int)<=i by omega,bE,au,iI hi,hw];refine .some ⟨⟨i+1,by simp,h_,h_,fun b=>?_⟩,by simp;omega⟩;rw[dP,az hi];have:=h5 b;simp only[aF,Option.toList_some,aK];split
   ·constructor
    ·rintro hb y (hy|rfl)
     ·exact(h5 b).1 h_ y hy
     ·exact hb
    ·intro hb;exact hb _ (.inr rfl)
   ·constructor
    ·rintro hb y (hy|rfl)
     ·exact(h5 b).1 hb y hy
     ·omega
    ·intro hb;exact(h5 b).2 fun y hy=>hb y (.inl hy)
  ·have hi':¬(i:Int)<x.length:=by omega
   simp only[hi',aU,ak,aB,aM];refine .some fun b=>?_
   rw[h5 b,cg h_]
theorem uz{a:gB}(ha:ku a=true)(x:Int):lA a x<=3:=by
 have:=(w_.1 ha).2.2;unfold lA;split
 ·omega
 ·rw[List.getD_eq_getElem?_getD];cases h:a[x.toNat]? with
  |none=>simp
  |some y=>have:=this y (bO h);simp;omega
theorem sJ{a:gB}(ha:ku a=true){x:Int}(hx:x<a.length):ni a x=some (lA a x:Int):=by
 unfold ni lA;by_cases h:x<0
 ·simp[h]
 ·have h2:0<=x:=by omega
  simp only[h,aU,ak,aB,h2,hx,bE,aC];have hl:x.toNat<a.length:=by omega
  have:=(w_.1 ha).2.2 _ (jB hl);rw[show a.getD x.toNat 0=a.getD x.toNat default from rfl];rw[show((a.getD x.toNat default).toNat:Int)=a.getD x.toNat default by omega]
theorem tA{a t:gB}(ha:ku a=true)(hs:Small t){i:Nat}(hi:i<=t.length):nj a t i=
 some (match t.drop i with|[]=>(-1,(i:Int))|x::_=>if x<a.length then((lA a x:Int),(i:Int)+1)else(-1,i)):=by
 unfold nj;by_cases h:i<t.length
 ·have h1:¬(t.length:Int)<=i:=by omega
  have h2:(i:Int)<t.length:=by omega
  have hw:IntKind.i64.wrap ((i:Int)+1)=i+1:=lz h_ h_;have hw2:IntKind.i64.wrap ((i:Int)+1-1)=i:=by rw[lz h_ h_];omega
  rw[aE h];simp only[h1,h2,aU,ak,aB,show(0:Int)<=i by omega,bE,aC,au,iI h,hw,hw2];by_cases h3:t[i]<a.length
  ·have h4:¬(a.length:Int)<=t[i]:=by omega
   simp[h3,h4,sJ ha h3]
  ·have h4:(a.length:Int)<=t[i]:=by omega
   simp[h3,h4]
 ·have h1:(t.length:Int)<=i:=by omega
  rw[bM h_];simp[h1]
theorem EL{a t:gB}{i k:Nat}(h:i<t.length):Tm.skip a (t.drop i) (k+1)=if Eh a (t[i])then Tm.skip a (t.drop (i+1)) (k+lA a t[i])else none:=by rw[aE h,tW]
def C9(a t:gB)(i:Nat):Int:=match Tm.skip a (t.drop i) 1 with|some r=>(t.length:Int)-r.length|none=> -1
theorem O4{a:gB}:∀{t r:gB}{k:Nat},Tm.skip a t k=some r->r.length+k<=t.length:=by
 intro t r k h;obtain⟨u,rfl,hu⟩:=Ai h;have:=hu.len;simp;omega
theorem uk{a t:gB}(ha:ku a=true)(hs:Small t)(hm:∀x∈t, -24<=x){i:Nat}(hi:i<=t.length):lY a t i=some (C9 a t i):=by
 have key:jN True (kW a t i) fun r=>match Tm.skip a (t.drop i) 1 with|some q=>r=(true,(t.length:Int)-q.length)|none=>r.1=false:=by
  unfold kW;refine jN.loop (fun s=>∃(k c:Nat),s=((k:Int),(c:Int))/\c<=t.length/\k<=1+3*c/\Tm.skip a (t.drop c) k=Tm.skip a (t.drop i) 1) (fun s=>t.length-s.2.toNat) ⟨1,i,rfl,hi,h_,rfl⟩ ?_;rintro _ ⟨k,c,rfl,h1,h2,h3⟩;simp only[nK];cases k with
  |zero=>
   simp only[show ¬(0:Int)<((0:Nat):Int) by omega,aU,ak,aB,aM];refine .some ?_;simp only[yc];rw[<-h3,sC];simp;omega
  |succ k=>
   simp only[show(0:Int)<((k+1:Nat):Int) by omega,aQ,aC,tA ha hs h1,aa];by_cases hc:c<t.length
   ·rw[aE hc];rw[EL hc]at h3;simp only;have hx:=hm _ (bB hc);by_cases hlt:t[c]<a.length
    ·have ho:Eh a t[c]:=⟨hx,hlt⟩;rw[ah ho]at h3;have hle:=uz ha t[c];simp only[hlt,aC,show ¬((lA a t[c]:Nat):Int)<0 by omega,aU,ak,aB];have hw1:IntKind.i64.wrap (((k+1:Nat):Int)+(lA a t[c]:Int))=(k+1:Nat)+lA a t[c]:=lz h_ h_;rw[hw1,lz h_ h_];refine .some ⟨⟨k+lA a t[c],c+1,by simp;omega,h_,h_,h3⟩,by simp;omega⟩
    ·have ho:¬Eh a t[c]:=fun h=>hlt h.2
     rw[aj ho]at h3;simp only[hlt,aB,show(-1:Int)<0 by omega,aQ,aC,aM];refine .some ?_;simp only[yc];rw[<-h3];trivial
   ·rw[bM h_,Hl]at h3;rw[bM h_];simp only[show(-1:Int)<0 by omega,aQ,aC,aM];refine .some ?_;simp only[yc];rw[<-h3];trivial
 unfold lY;obtain⟨r,h1,h2⟩:=key.get;rw[h1,aa];unfold C9;cases h:Tm.skip a (t.drop i) 1 with
 |none=>rw[h]at h2;simp only at h2;simp[h2]
 |some q=>rw[h]at h2;simp only at h2;simp[h2]
def iK(a t:gB):Bool:=ku a&&(decide (1<=t.length)&&decide (t.length<=60))&&decide (Wf a 1 t)
theorem ij{a t:gB}:iK a t=true<->ku a=true/\1<=t.length/\t.length<=60/\Wf a 1 t:=by simp[iK,and_assoc]
theorem Cp{a t:gB}:C9 a t 0=(t.length:Int)<->Wf a 1 t:=by
 unfold C9 Wf;rw[bF];cases h:Tm.skip a t 1 with
 |none=>
  simp only[reduceCtorEq,iff_false];try omega
 |some q=>
  simp only[aL];constructor
  ·intro h;exact bG.1 h_
  ·rintro rfl;simp
theorem wz(a t:gB):pX a t=some (iK a t):=by
 unfold pX iK;rw[xJ,aa];cases ha:ku a with
 |false=>simp
 |true=>
  simp only[aC,bP];by_cases h1:1<=t.length
  ·by_cases h2:t.length<=60
   ·have e1:(0:Int)<t.length:=by omega
    have e2:(t.length:Int)<=60:=by omega
    simp only[e1,e2,h1,h2,aQ,aC,eA,bP];obtain⟨m,h3,h4⟩:=(xK (x:=t) h_ (show t.length<_ by omega)).get;rw[h3,aa];by_cases h5: -24<=m
    ·simp only[h5,aQ,aC];have:=uk ha (show t.length<_ by omega) ((h4 _).1 h5) (i:=0) h_;rw[show((0:Nat):Int)=0 by rfl]at this;rw[this,aa];by_cases hw:Wf a 1 t
     ·simp[hw,Cp.2 hw]
     ·have:=mt Cp.1 hw;simp[hw,this]
    ·have hw:¬Wf a 1 t:=fun hw=>h5 ((h4 _).2 fun y hy=>(hw.all y hy).1)
     simp[h5,hw]
   ·have e2:¬(t.length:Int)<=60:=by omega
    have e1:(0:Int)<t.length:=by omega
    simp[e1,e2,h2]
  ·have e1:¬(0:Int)<t.length:=by omega
   simp only[e1,h1,aU,ak,aB,Bool.false_and]
theorem Aq{a:gB}(ha:ku a=true)(x:Int):qp a x=some (if Eh a x then(lA a x:Int)else -1):=by
 have hl:=(w_.1 ha).2.1;unfold qp;simp only[lE,aa,lz (n:=(a.length:Int)-1) h_ h_];by_cases h1: -24<=x
 ·by_cases h2:x<= -1
  ·simp[h1,h2,Eh,lA,show x<0 by omega,show x<(a.length:Int) by omega]
  ·by_cases h3:x<a.length
   ·have hx:x.toNat<a.length:=by omega
    have:=(w_.1 ha).2.2 _ (jB hx);simp only[h1,h2,h3,Eh,show 0<=x by omega,show x<=(a.length:Int)-1 by omega,aQ,aU,Bool.and_false,eA,ak,aB,bE,aC,lA,show ¬x<0 by omega];rw[show a.getD x.toNat 0=a.getD x.toNat default from rfl];rw[show((a.getD x.toNat default).toNat:Int)=a.getD x.toNat default by omega]
   ·simp[h1,h2,h3,Eh,show ¬x<=(a.length:Int)-1 by omega]
 ·simp[h1,Eh,show ¬0<=x by omega]
theorem uw{a t:gB}(ha:ku a=true)(hs:Small t){i:Nat}(hi:i<=t.length):oc a t i=some (C9 a t i):=by
 have key:jN True (oc a t i) (·=C9 a t i):=by
  unfold oc;refine jN.loop (fun s:Int×Int=>∃(k c:Nat),s=(((k+1:Nat):Int),(c:Int))/\c<=t.length/\k<=3*c/\Tm.skip a (t.drop c) (k+1)=Tm.skip a (t.drop i) 1) (fun s:Int×Int=>t.length-s.2.toNat) ⟨0,i,rfl,hi,h_,rfl⟩ ?_;rintro _ ⟨k,c,rfl,h1,h2,h3⟩;simp only[ux];by_cases hc:c<t.length
  ·rw[EL hc]at h3;have hc':(c:Int)<t.length:=by omega
   simp only[hc',aQ,aC,show(0:Int)<=c by omega,bE,au,iI hc,Aq ha,aa];have hle:=uz ha t[c];by_cases ho:Eh a t[c]
   ·rw[ah ho]at h3;simp only[ho,aC,show ¬((lA a t[c]:Nat):Int)<0 by omega,aU,ak,aB];rw[lz (n:=((k+1:Nat):Int)+(lA a t[c]:Int)) h_ h_,lz (n:=((k+1:Nat):Int)+(lA a t[c]:Int)-1) h_ h_,lz (n:=(c:Int)+1) h_ h_];cases hk:k+lA a t[c]with
    |zero=>
     rw[hk,sC]at h3;have:(((k+1:Nat):Int)+(lA a t[c]:Int)-1==0)=true:=by simp;omega
     simp only[this,aC,aM];refine .some ?_;simp only[yc,C9];rw[<-h3];simp;omega
    |succ q=>
     have:¬(((k+1:Nat):Int)+(lA a t[c]:Int)-1==0)=true:=by simp;omega
     simp only[this,aB];refine .some ⟨⟨q,c+1,by simp;omega,h_,h_,by rw[<-hk];exact h3⟩,by simp;omega⟩
   ·rw[aj ho]at h3;simp only[ho,aB,show(-1:Int)<0 by omega,aQ,aC,aM];refine .some ?_;simp only[yc,C9];rw[<-h3]
  ·have hc':¬(c:Int)<t.length:=by omega
   rw[bM h_,Hl]at h3;simp only[hc',aU,ak,aB,aM];refine .some ?_;simp only[yc,C9];rw[<-h3]
 exact key.eq
theorem oG(a t:gB):mW a t=some (iK a t):=by
 unfold mW iK;rw[xL,aa];cases ha:ku a with
 |false=>simp
 |true=>
  simp only[aC,bP,lE,aa];have e:(decide ((1:Int)<=t.length)&&decide ((t.length:Int)<=60))=(decide (1<=t.length)&&decide (t.length<=60)):=by
   congr 1<;>exact fh.2 h_
  rw[e];by_cases h:1<=t.length/\t.length<=60
  ·simp only[h.1,h.2,aQ,eA,aC,bP];have:=uw ha (show Small t by show t.length<_;omega) (i:=0) h_;rw[show((0:Nat):Int)=0 by rfl]at this;rw[this,aa];by_cases hw:Wf a 1 t
   ·simp[hw,Cp.2 hw]
   ·have:=mt Cp.1 hw;simp[hw,this]
  ·have:(decide (1<=t.length)&&decide (t.length<=60))=false:=by simp;omega
   simp[this]
theorem ua{s:gB}(hs:Small s)(v:Int):jJ s v=some (decide (v∈s)):=by
 have key:jN True (jd s v) fun r=>0<=r<->v∈s:=by
  unfold jd;refine jN.loop (fun i':Int=>∃i:Nat,i'=i/\i<=s.length/\v∉s.take i) (fun i':Int=>s.length-i'.toNat) ⟨0,rfl,h_,by simp⟩ ?_;rintro _ ⟨i,rfl,h1,h2⟩;simp only[kf];by_cases hi:i<s.length
  ·have hi':(i:Int)<s.length:=by omega
   simp only[hi',aQ,aC,show(0:Int)<=i by omega,bE,au,iI hi,lz (n:=(i:Int)+1) h_ h_];by_cases hv:v=s[i]
   ·simp only[hv,cA,aC,aM];refine .some ?_;simp only[yc];exact⟨fun _=>bB hi,fun _=>by omega⟩
   ·have:¬(v==s[i])=true:=by simpa using hv
    simp only[this,aB];refine .some ⟨⟨i+1,by simp,h_,?_⟩,by simp;omega⟩;rw[dP,az hi,aF];rintro(h|h)
    ·exact h2 h
    ·exact hv (by simpa using h)
  ·have hi':¬(i:Int)<s.length:=by omega
   simp only[hi',aU,ak,aB,aM];refine .some ?_;rw[cg h_]at h2;simp only[yc];exact⟨fun h=>by omega,fun h=>absurd h h2⟩
 unfold jJ;obtain⟨r,h1,h2⟩:=key.get;rw[h1,aa];congr 1;exact fh.2 h2
theorem xM{s:gB}(hs:Small s)(v:Int):qM s v=some (decide (v∈s)):=by
 unfold qM;rw[GP (xs:=s) (p:=fun x=>x==v) (y:=true) (n:=false) (fun i x hi hi' _ hx=>?_) (by simp[rR])]
 ·congr 1;by_cases h:v∈s
  ·have:s.any (fun x=>x==v)=true:=dj.2 ⟨v,h,by simp⟩;simp[this,h]
  ·have:s.any (fun x=>x==v)=false:=by
    rw[fY];intro x hx he;have:x=v:=by simpa using he
    subst this;exact h hx
   simp[this,h]
 ·simp only[rR,hi',aQ,aC,au,show(0:Int)<=i by omega,bE,hx,lz (n:=(i:Int)+1) (by have:=hs;omega) (by have:=hs;omega)];by_cases h:(x==v)=true
  ·simp[h]
  ·simp[h]
def KM(l:gB)(x:Int):Bool:=decide (x<0->x∈l)
def wm(a:gB)(r:gB×gB):Bool:=iK a r.1&&(iK a r.2&&(decide (0<=r.1.headD 0)&&r.2.all (KM r.1)))
def jR(s:gB×List gD):Bool:=ku s.1&&(decide (s.2.length<=12)&&s.2.all (wm s.1))
theorem Dk{l:gB}(h:0<l.length):l.getD 0 default=l.headD 0:=by cases l with|nil=>simp at h|cons x l=>rfl
theorem Bf(a:gB)(r:gB×gB):rz a r=some (wm a r):=by
 unfold rz wm;rw[wz,wz,aa];cases h1:iK a r.1 with
 |false=>simp
 |true=>
  rw[aa];cases h2:iK a r.2 with
  |false=>simp
  |true=>
   have e1:=ij.1 h1;have e2:=ij.1 h2;have e3:(0:Int)<r.1.length:=by omega
   simp only[aC,eB,e3,bE,bP,and_true];rw[Dk h_];by_cases h3:r.1.headD 0<0
   ·simp[-List.headD_eq_head?_getD,h3,show ¬0<=r.1.headD 0 by omega]
   ·simp only[h3,aU,ak,aB,show 0<=r.1.headD 0 by omega,aQ,bP];refine qA (fun i x hi hi' _ hx=>?_) (by simp[qD]);simp only[qD,hi',aQ,aC,au,show(0:Int)<=i by omega,bE,hx,lz (n:=(i:Int)+1) h_ h_,KM,
     ua (show Small r.1 by show r.1.length<_;omega),aa]
    by_cases h4:x<0<;>by_cases h5:x∈r.1<;>simp[h4,h5]
theorem Bi(a:gB)(r:gB×gB):rD a r=some (wm a r):=by
 unfold rD wm;rw[oG,oG,aa];cases h1:iK a r.1 with
 |false=>simp
 |true=>
  rw[aa];cases h2:iK a r.2 with
  |false=>simp
  |true=>
   have e1:=ij.1 h1;have e2:=ij.1 h2;have e3:(0:Int)<r.1.length:=by omega
   simp only[aC,eB,e3,bE,bP,and_true];rw[Dk h_];by_cases h3:r.1.headD 0<0
   ·simp[-List.headD_eq_head?_getD,h3,show ¬0<=r.1.headD 0 by omega]
   ·simp only[h3,aU,ak,aB,show 0<=r.1.headD 0 by omega,aQ,bP];refine qA (fun i x hi hi' _ hx=>?_) (by simp[qK]);simp only[qK,hi',aQ,aC,au,show(0:Int)<=i by omega,bE,hx,lz (n:=(i:Int)+1) h_ h_,KM,
     xM (show Small r.1 by show r.1.length<_;omega),aa]
    by_cases h4:x<0<;>by_cases h5:x∈r.1<;>simp[h4,h5]
theorem zP(s:gB×List gD):pM s=some (jR s):=by
 unfold pM jR;rw[xJ,aa];cases h1:ku s.1 with
 |false=>simp
 |true=>
  by_cases h2:12<(s.2.length:Int)
  ·simp[h2,show ¬s.2.length<=12 by omega]
  ·simp only[aC,h2,aU,ak,aB,bP,show s.2.length<=12 by omega,aQ];refine qA (fun i x hi hi' _ hx=>?_) (by simp[oV]);simp only[oV,hi',aQ,aC,au,show(0:Int)<=i by omega,bE,hx,lz (n:=(i:Int)+1) h_ h_,Bf,aa];cases wm s.1 x<;>simp
theorem pn(s:gB×List gD):mK s=some (jR s):=by
 unfold mK jR;rw[xL,aa];cases h1:ku s.1 with
 |false=>simp
 |true=>
  by_cases h2:12<(s.2.length:Int)
  ·simp[h2,show ¬s.2.length<=12 by omega]
  ·simp only[aC,h2,aU,ak,aB,bP,show s.2.length<=12 by omega,aQ];refine qA (fun i x hi hi' _ hx=>?_) (by simp[pz]);simp only[pz,hi',aQ,aC,au,show(0:Int)<=i by omega,bE,hx,lz (n:=(i:Int)+1) h_ h_,Bi,aa];cases wm s.1 x<;>simp
theorem NT{s t:gB}(hl:s.length=t.length):(s==t)=decide (∀i<s.length,s.getD i default=t.getD i default):=by
 have:(s==t)=decide (s=t):=by by_cases h:s=t<;>simp[h]
 rw[this];refine fh.2 ⟨fun h=>by subst h;simp,fun h=>?_⟩;refine List.ext_getElem hl fun i h1 h2=>?_
 have:=h i h1;rwa [iI h1,iI h2]at this
theorem J4{s t:gB}(hs:Small s)(hl:s.length=t.length){f:Int->Option gO}
 (h:∀i:Nat,i<s.length->f i=some (if s.getD i default=t.getD i default then .inl ((i:Int)+1)else .inr false)) (he:f s.length=some (.inr true)):iB f 0=some (s==t):=by
 have key:jN True (iB f 0) fun r=>r=decide (∀i<s.length,s.getD i default=t.getD i default):=by
  refine jN.loop (fun i':Int=>∃i:Nat,i'=i/\i<=s.length/\∀j<i,s.getD j default=t.getD j default) (fun i':Int=>s.length-i'.toNat) ⟨0,rfl,h_,h_⟩ ?_;rintro _ ⟨i,rfl,h1,h2⟩;by_cases hi:i<s.length
  ·rw[h i hi];by_cases e:s.getD i default=t.getD i default
   ·rw[ah e];refine .some ⟨⟨i+1,by simp,h_,fun j hj=>?_⟩,by simp;omega⟩;rcases cF j i with h3|h3
    ·exact h2 j h3
    ·obtain rfl:j=i:=by omega
     exact e
   ·rw[aj e];refine .some ?_;simp only[yc];exact(cL fun h=>e (h i hi)).symm
  ·obtain rfl:i=s.length:=by omega
   rw[he];refine .some ?_;simp only[yc];exact(cK h2).symm
 rw[NT hl];obtain⟨r,h1,h2⟩:=key.get;rw[h1,h2]
theorem mF{s t:gB}(hs:Small s):iX s t=some (s==t):=by
 unfold iX;by_cases hl:s.length=t.length
 ·have:¬((s.length:Int) != (t.length:Int))=true:=by simp;omega
  rw[aj this];refine J4 hs hl (fun i hi=>?_) (by simp[kR]);simp only[kR,show(i:Int)<s.length by omega,show(i:Int)<t.length by omega,aQ,aC,show(0:Int)<=i by omega,bE,au,
   lz (n:=(i:Int)+1) (by have:=hs;omega) (by have:=hs;omega)]
  by_cases e:s.getD i default=t.getD i default
  ·simp only[e,eZ,ak,aB,aC]
  ·have:(s.getD i default != t.getD i default)=true:=by simpa using e
   simp only[this,e,aC,aB,aM]
 ·have:((s.length:Int) != (t.length:Int))=true:=by simp;omega
  rw[ah this];congr 1;symm;rw[bW];rintro rfl;exact hl rfl
theorem o_{s t:gB}(hs:Small s):lJ s t=some (s==t):=by
 unfold lJ;by_cases hl:s.length=t.length
 ·have:¬((s.length:Int) != (t.length:Int))=true:=by simp;omega
  rw[aj this];refine J4 hs hl (fun i hi=>?_) (by simp[pg]);simp only[pg,show(i:Int)<s.length by omega,show(i:Int)<t.length by omega,aQ,aC,show(0:Int)<=i by omega,bE,au,
   lz (n:=(i:Int)+1) (by have:=hs;omega) (by have:=hs;omega)]
  by_cases e:s.getD i default=t.getD i default
  ·simp only[e,eZ,ak,aB,aC]
  ·have:(s.getD i default != t.getD i default)=true:=by simpa using e
   simp only[this,e,aC,aB,aM]
 ·have:((s.length:Int) != (t.length:Int))=true:=by simp;omega
  rw[ah this];congr 1;symm;rw[bW];rintro rfl;exact hl rfl
theorem m_{l:gB}(hs:Small l):jK l=some l:=by unfold jK;rw[ah (by have:=hs;omega)]
theorem Am{l:gB}(hs:Small l):kH l=some l:=by
 unfold kH;refine(jN.P8 (t:=True) (P:=(·=l)) ?_ fun h=>?_).eq
 ·rw[ah (by have:=hs;omega)];exact .some rfl
 ·subst h;simp
theorem AB{a t u r:gB}{i:Nat}(h:t.drop i=u++r)(hu:Wf a 1 u):C9 a t i=(t.length:Int)-r.length:=by unfold C9;rw[h,hu.skip]
theorem yR{t u r:gB}{i:Nat}(h:t.drop i=u++r)(hi:i<=t.length):(t.take (t.length-r.length)).drop i=u:=by
 have hl:=bS List.length h;simp at hl;rw[List.drop_take,h,dc h_,cg h_]
theorem pQ{a t u r:gB}(ha:ku a=true)(hs:Small t)(hm:∀x∈t, -24<=x){i:Nat}(h:t.drop i=u++r)(hu:Wf a 1 u):jX a t i=some u:=by
 have hl:=bS List.length h;have hul:=hu.len;simp at hl;have hi:i<=t.length:=by omega
 unfold jX;rw[uk ha hs hm hi,aa,AB h hu,ah h_,show((t.length:Int)-r.length).toNat=t.length-r.length by omega,au,yR h hi]
theorem uy{a t u r:gB}(ha:ku a=true)(hs:Small t){i:Nat}(h:t.drop i=u++r)(hu:Wf a 1 u):pF a t i=some u:=by
 have hl:=bS List.length h;have hul:=hu.len;simp at hl;have hi:i<=t.length:=by omega
 unfold pF;rw[uw ha hs hi,aa,AB h hu,ah h_,show((t.length:Int)-r.length).toNat=t.length-r.length by omega,au,yR h hi,
  m_ (by show u.length<_;have:=hs;omega)]
 rfl
def Lj(o:Option Bd)(r:Bd×Bool):Prop:=match o with|some b=>r=(b,true)|none=>r.2=false
structure Sx(a p t:gB)(b0 b:Bd)(i c:Nat):Prop where
 hi:i<=p.length
 hc:c<=t.length
 hb:b.length=24
 FO:∀u∈b,u.length<=60
 k:∃k,Wf a k (p.drop i)/\Wf a k (t.drop c)
 m:uW a (p.drop i) (t.drop c) b=uW a p t b0
theorem Sx.var{a p t:gB}{b0 b:Bd}{i c:Nat}(h:Sx a p t b0 b i c)(hi:i<p.length)(hn:p[i]<0):∃u r,t.drop c=u++r/\Wf a 1 u/\c+u.length<=t.length/\Eh a p[i]/\
 uW a p t b0=(if kE b p[i]=[]then uW a (p.drop (i+1)) (t.drop (c+u.length)) (iA b p[i] u)else if kE b p[i]=u then uW a (p.drop (i+1)) (t.drop (c+u.length)) b else none)/\
 ∃k,Wf a k (p.drop (i+1))/\Wf a k (t.drop (c+u.length)):=by
 obtain⟨k,h1,h2⟩:=h.k;rw[aE hi]at h1;cases k with
 |zero=>have:=h1.zero;cases this
 |succ k=>
  obtain⟨ho,h1⟩:=Wf.je.1 h1;rw[show k+1=1+k by omega]at h2;obtain⟨u,r,e,hu,hr⟩:=h2.split;have hr':t.drop (c+u.length)=r:=by rw[<-List.drop_drop,e,bT]
  have hl:=bS List.length e;simp at hl;have:=hu.len;refine⟨u,r,e,hu,h_,ho,?_,k,?_,by rw[hr'];exact hr⟩
  ·rw[<-h.m,aE hi,e,Fe hn hu,hr']
  ·have ha:lA a p[i]=0:=by simp[lA,hn]
   rwa [ha,dy]at h1
theorem Sx.sym{a p t:gB}{b0 b:Bd}{i c:Nat}(h:Sx a p t b0 b i c)(hi:i<p.length)(hn:¬p[i]<0):∃hc:c<t.length,Eh a p[i]/\uW a p t b0=(if t[c]=p[i]then uW a (p.drop (i+1)) (t.drop (c+1)) b else none)/\
 (t[c]=p[i]->∃k,Wf a k (p.drop (i+1))/\Wf a k (t.drop (c+1))):=by
 obtain⟨k,h1,h2⟩:=h.k;rw[aE hi]at h1;cases k with
 |zero=>have:=h1.zero;cases this
 |succ k=>
  obtain⟨ho,h1⟩:=Wf.je.1 h1;have hc:c<t.length:=by
   rcases cF c t.length with h|h
   ·exact h
   ·rw[bM h]at h2;have:=h2.len;simp at this
  rw[aE hc]at h2;obtain⟨ho',h2⟩:=Wf.je.1 h2;refine⟨hc,ho,?_,fun e=>⟨k+lA a p[i],h1,by rw[<-e];exact h2⟩⟩;rw[<-h.m,aE hi,aE hc,Ct hn]
theorem Sx.SC{a p t:gB}{b0 b:Bd}{i c:Nat}(h:Sx a p t b0 b i c)(hi:i<p.length):c<t.length:=by
 obtain⟨k,h1,h2⟩:=h.k;rw[aE hi]at h1;cases k with
 |zero=>have:=h1.zero;cases this
 |succ k=>
  rcases cF c t.length with h|h
  ·exact h
  ·rw[bM h]at h2;have:=h2.len;simp at this
theorem Aa{b:Bd}{n:Int}{u:gB}(hs:∀u∈b,u.length<=60)(hu:u.length<=60):∀v∈iA b n u,v.length<=60:=fun v hv=>by
 rcases List.mem_or_eq_of_mem_set hv with h|h
 ·exact hs v h
 ·subst h;exact hu
theorem z_{b:Bd}{n:Int}(hs:∀u∈b,u.length<=60):(kE b n).length<=60:=by
 unfold kE;rw[List.getD_eq_getElem?_getD];cases h:b[(-1-n).toNat]? with
 |none=>simp
 |some u=>exact hs u (bO h)
theorem zl{a p t:gB}{b0:Bd}(ha:ku a=true)(hp:Wf a 1 p)(ht:Wf a 1 t)(hpl:p.length<=60)(htl:t.length<=60)(hb:b0.length=24)(hbs:∀u∈b0,u.length<=60):
 jN True (oE a p t b0) (fun r=>Lj (uW a p t b0) r/\r.1.length=24):=by
 unfold oE;refine jN.loop (fun s:Int×Int×Bd=>∃i c:Nat,s.1=(c:Int)/\s.2.1=(i:Int)/\Sx a p t b0 s.2.2 i c) (fun s:Int×Int×Bd=>p.length-s.2.1.toNat)
  ⟨0,0,rfl,rfl,h_,h_,hb,hbs,⟨1,by simpa using hp,by simpa using ht⟩,by simp⟩ ?_
 rintro⟨_,_,b⟩ ⟨i,c,rfl,rfl,h⟩;simp only at h;have hb:=h.hb;simp only[qZ];by_cases hi:i<p.length
 ·have hc:=h.SC hi;simp only[show(i:Int)<p.length by omega,show ¬(t.length:Int)<=c by omega,aQ,aU,aC,show(0:Int)<=i by omega,show(0:Int)<=c by omega,show(c:Int)<t.length by omega,bE,
   ak,aB,au,iI hi,iI hc,lz (n:=(i:Int)+1) h_ h_,lz (n:=(c:Int)+1) h_ h_]
  by_cases hn:p[i]<0
  ·obtain⟨u,r,e,hu,hl,ho,hm,hk⟩:=h.var hi hn;have hul:=hu.len;have hx: -24<=p[i]:=ho.1;have hlt:(-1-p[i]).toNat<b.length:=by omega
   simp only[show ¬0<=p[i] by omega,aU,ak,aB,pQ ha (show Small t by show t.length<_;omega) (fun x hx=>(ht.all x hx).1) e hu,aa,
    lz (n:= -1-p[i]) h_ h_,show 0<= -1-p[i] by omega,show -1-p[i]<24 by omega,show -1-p[i]<(b.length:Int) by omega,bE,aC,hb,show((-1:Int)-p[i]<((24:Nat):Int)) by omega,
    lz (n:=(c:Int)+u.length) h_ h_]
   have eg:b.getD (-1-p[i]).toNat default=kE b p[i]:=rfl;rw[eg];by_cases h0:kE b p[i]=[]
   ·rw[ah h0]at hm;simp only[h0,gi,aC,show 0<u.length by omega];exact .some ⟨⟨i+1,c+u.length,by simp,by simp,h_,h_,by simpa using hb,Aa h.FO h_,hk,by rw[hm];rfl⟩,by simp;omega⟩
   ·rw[aj h0]at hm;have:¬(kE b p[i]).isEmpty=true:=by simpa using h0
    simp only[this,aB,mF (show Small (kE b p[i]) by show List.length _<_;have:=z_ (n:=p[i]) h.FO;omega),aa];by_cases h1:kE b p[i]=u
    ·rw[ah h1]at hm;simp only[h1,cA,aC];exact .some ⟨⟨i+1,c+u.length,by simp,by simp,h_,h_,hb,h.FO,hk,hm.symm⟩,by simp;omega⟩
    ·rw[aj h1]at hm;have:¬(kE b p[i]==u)=true:=by simpa using h1
     simp only[this,aB,aM];refine .some ?_;simp only[yc,Lj,hm];exact⟨trivial,hb⟩
  ·obtain⟨hc',ho,hm,hk⟩:=h.sym hi hn;simp only[show 0<=p[i] by omega,aQ,aC];by_cases e:t[c]=p[i]
   ·rw[ah e]at hm;simp only[e,eZ,ak,aB];exact .some ⟨⟨i+1,c+1,by simp,by simp,h_,h_,hb,h.FO,hk e,hm.symm⟩,by simp;omega⟩
   ·rw[aj e]at hm;have:(t[c] != p[i])=true:=by simpa using e
    simp only[this,aC,hb,aM];refine .some ?_;simp only[yc,Lj,hm];exact⟨trivial,hb⟩
 ·have hm:=h.m;rw[bM h_,AN]at hm;simp only[show ¬(i:Int)<p.length by omega,aU,ak,aB,hb,aC,aM];refine .some ?_;simp only[yc,Lj,<-hm];exact⟨trivial,hb⟩
def kF(s:Bd)(i:Nat):gB:=if s.getD i []=[]\/s.getD i []=[-1-(i:Int)]then []else s.getD i []
theorem LS{s o:Bd}(h:∀i,o.getD i []=kF s i){n:Int}(hn:n<0):Tm.sig o n=Tm.sig s n:=by
 unfold Tm.sig kE;rw[h];unfold kF;rw[show -1-((-1-n).toNat:Int)=n by omega];by_cases h1:s.getD (-1-n).toNat []=[]
 ·simp only[h1,true_or,aC]
 ·by_cases h2:s.getD (-1-n).toNat []=[n]
  ·simp only[h2,or_true,aC];simp
  ·simp only[h1,h2,or_self,aB]
theorem yu{s:Bd}{u:gB}{i:Nat}:(s++[u]).getD i []=if i<s.length then s.getD i []else if i=s.length then u else []:=by
 rw[List.getD_eq_getElem?_getD];by_cases h:i<s.length
 ·rw[ah h,aW h,List.getD_eq_getElem?_getD]
 ·rw[aj h,bK h_];by_cases h2:i=s.length
  ·subst h2;simp
  ·rw[aj h2,bH (by simp;omega)];rfl
theorem uc{s:Bd}{i:Nat}(h:s.length<=i):s.getD i []=[]:=by rw[List.getD_eq_getElem?_getD,bH h];rfl
structure PSt(s:Bd)(o:Bd)(i:Nat):Prop where
 hi:i<=s.length
 hl:o.length<=i
 he:∀j<i,o.getD j []=kF s j
theorem Ce{s:Bd}(hl:s.length<=24)(hs:∀u∈s,u.length<=60):jN True (sL s) fun o=>o.length<=24/\∀i,o.getD i []=kF s i:=by
 unfold sL;refine jN.loop (fun q:Int×Bd=>∃i:Nat,q.1=i/\PSt s q.2 i) (fun q:Int×Bd=>s.length-q.1.toNat) ⟨0,rfl,h_,by simp,h_⟩ ?_;rintro⟨_,o⟩ ⟨i,rfl,h⟩;simp only at h;simp only[ur];by_cases hi:i<s.length
 ·have hu:=hs _ (bB hi);have hg:s.getD i []=s[i]:=iI hi;simp only[show(i:Int)<s.length by omega,aQ,aC,show(0:Int)<=i by omega,bE,au,iI hi,lz (n:=(i:Int)+1) h_ h_];have skip:kF s i=[]->jN True (some (Sum.inl ((i:Int)+1,o)):Option ((Int×Bd)⊕Bd)) (yc (fun q:Int×Bd=>∃i:Nat,q.1=i/\PSt s q.2 i) (fun q:Int×Bd=>s.length-q.1.toNat) (fun o=>o.length<=24/\∀i,o.getD i []=kF s i) (s.length-i)):=fun hp=>
   .some ⟨⟨i+1,by simp,h_,Nat.le_succ_of_le h.hl,fun j hj=>by
    rcases cF j i with h3|h3
    ·exact h.he j h3
    ·obtain rfl:j=i:=by omega
     rw[hp,uc h.hl]⟩,by simp;omega⟩
  by_cases h0:s[i]=[]
  ·simp only[h0,bL,gk,cA,aC];exact skip (by unfold kF;rw[hg,ah (.inl h0)])
  ·have hne:¬(((s[i]).length:Int)==0)=true:=by
    have:=cc.2 h0;simp only[bw];omega
   simp only[hne,aB,rP,aa,lz (n:= -1-(i:Int)) h_ h_,mF (show Small s[i] by show List.length _<_;omega)];by_cases h1:s[i]=[-1-(i:Int)]
   ·simp only[h1,cA,aC];exact skip (by unfold kF;rw[hg,ah (.inr h1)])
   ·have:¬(s[i]==[-1-(i:Int)])=true:=by simpa using h1
    simp only[this,aB];have hp:kF s i=s[i]:=by unfold kF;rw[hg,aj (by simp[h0,h1])]
    refine jN.loop (fun o':Bd=>o'.length<=i/\∀j<i,o'.getD j []=kF s j) (fun o':Bd=>i-o'.length) ⟨h.hl,h.he⟩ ?_;rintro o' ⟨h3,h4⟩;simp only[uu];by_cases h5:o'.length<i
    ·simp only[show(o'.length:Int)<i by omega,aQ,aC,show(o'.length+1)*24<=140737488355328 by omega];refine .some ⟨⟨by simp;omega,fun j hj=>?_⟩,by simp;omega⟩;rw[yu];split
     ·exact h4 j hj
     ·have:=h4 j hj;rw[uc h_]at this;simp[<-this]
    ·simp only[show ¬(o'.length:Int)<i by omega,aU,ak,aB,show(o'.length+1)*24<=140737488355328 by omega,aC];rw[au,iI hi,Am (show Small s[i] by show List.length _<_;omega),aa,aM];refine .some ?_;refine⟨⟨i+1,by simp[lz (n:=(i:Int)+1) h_ h_],h_,by simp;omega,fun j hj=>?_⟩,by simp[lz (n:=(i:Int)+1) h_ h_];omega⟩;rw[yu];split
     ·exact h4 j h_
     ·obtain rfl:j=i:=by omega
      rw[ah h_,hp]
 ·simp only[show ¬(i:Int)<s.length by omega,aU,ak,aB,aM];refine .some ⟨by have:=h.hl;have:=h.hi;omega,fun j=>?_⟩;by_cases hj:j<i
  ·exact h.he j hj
  ·rw[uc (by have:=h.hl;omega)];unfold kF;rw[uc (s:=s) h_];simp
def sW(o:Option Bd)(r:Bd×Bool):Prop:=match o with
 |some b=>r.2=true/\r.1.length<=24/\∀i,r.1.getD i []=kF b i
 |none=>r.2=false
theorem uX{a:gB}:∀{p t:gB}{b b':Bd},uW a p t b=some b'->(∀u∈b,u.length<=60)->t.length<=60->b.length=24->b'.length=24/\∀u∈b',u.length<=60
 |[],t,b,b',h,hs,_,hb=>by rw[AN]at h;cases h;exact⟨hb,hs⟩
 |n::p,t,b,b',h,hs,ht,hb=>by
  unfold uW at h;split at h
  ·split at h
   ·cases h
   ·rename_i r hr;have:=O4 hr;simp only at h;split at h
    ·exact uX (b:=Tm.iA b n _) h (Aa hs (by simp;omega)) h_ (by simpa[Tm.iA]using hb)
    ·split at h
     ·exact uX h hs h_ hb
     ·cases h
  ·split at h
   ·cases h
   ·split at h
    ·exact uX h hs (by simp at ht;omega) hb
    ·cases h
theorem um{a p t:gB}(ha:ku a=true)(hp:Wf a 1 p)(ht:Wf a 1 t)(hpl:p.length<=60)(htl:t.length<=60):jN True (qG a p t) (sW (uW a p t jQ)):=by
 unfold qG;have hn:∀u∈jQ,u.length<=60:=by intro u hu;simp[jQ]at hu;subst hu;simp
 obtain⟨r,h1,h2,h3⟩:=(zl ha hp ht hpl htl (b0:=jQ) (by simp[jQ]) hn).get;rw[show(List.replicate 24 []:Bd)=jQ from rfl,h1,aa,ah h3];cases hm:uW a p t jQ with
 |none=>
  rw[hm]at h2;simp only[Lj]at h2;simp only[h2,ak,aB];exact .some rfl
 |some b=>
  rw[hm]at h2;simp only[Lj]at h2;subst h2;obtain⟨h4,h5⟩:=uX hm hn htl (by simp[jQ]);simp only[aC,h4,nJ,aa];refine jN.bind (Ce h_ h5) fun o ho=>.some ⟨rfl,ho.1,ho.2⟩
theorem vH{s:Bd}(hs:∀u∈s,u.length<=60)(hl:s.length<=24){i:Nat}(hi:i<=24):oL s i=some (if s.getD i []=[]then [-1-(i:Int)]else s.getD i []):=by
 unfold oL;rw[lz (n:= -1-(i:Int)) h_ h_];by_cases h:i<s.length
 ·have hu:=hs _ (bB h);have hg:s.getD i []=s[i]:=iI h;simp only[show(i:Int)<s.length by omega,aQ,aC,show(0:Int)<=i by omega,bE,au,iI h,hg];by_cases h0:s[i]=[]
  ·simp[h0]
  ·have:=cc.2 h0;simp only[h0,aB,show(0:Int)<s[i].length by omega,aQ,aC,m_ (show Small s[i] by show List.length _<_;omega),aa]
 ·simp only[show ¬(i:Int)<s.length by omega,aU,ak,aB,uc (s:=s) (i:=i) h_,aC]
theorem As{s:Bd}(hl:s.length<=24)(hs:∀u∈s,u.length<=60):jN True (qv s) fun o=>o.length<=24/\∀i,o.getD i []=kF s i:=by
 unfold qv;refine jN.loop (fun q:Int×Bd=>∃i:Nat,q.1=i/\i<=s.length/\q.2.length=i/\∀j<i,q.2.getD j []=kF s j) (fun q:Int×Bd=>s.length-q.1.toNat) ⟨0,rfl,h_,rfl,h_⟩ ?_;rintro⟨_,o⟩ ⟨i,rfl,h1,h2,h3⟩;simp only at h2 h3;simp only[sR];by_cases hi:i<s.length
 ·have hw:IntKind.i64.wrap ((i:Int)+1)=i+1:=lz h_ h_;have hw2:IntKind.i64.wrap (-1-(i:Int))= -1-i:=lz h_ h_;have hm:(o.length+1)*24<=140737488355328:=by omega
  have hg:s.getD i []=s[i]:=iI hi;have step:∀u:gB,kF s i=u->jN True (some (Sum.inl ((i:Int)+1,o++[u])):Option ((Int×Bd)⊕Bd)) (yc (fun q:Int×Bd=>∃i:Nat,q.1=i/\i<=s.length/\q.2.length=i/\∀j<i,q.2.getD j []=kF s j) (fun q:Int×Bd=>s.length-q.1.toNat) (fun o=>o.length<=24/\∀i,o.getD i []=kF s i) (s.length-i)):=fun u hu=>
   .some ⟨⟨i+1,by simp,h_,by simp[h2],fun j hj=>by
    rw[yu];split
    ·exact h3 j h_
    ·rw[ah h_,show j=i by omega,hu]⟩,by simp;omega⟩
  simp only[show(i:Int)<s.length by omega,aQ,aC,vH hs hl (i:=i) h_,aa,hm,hw,hw2];by_cases h0:s[i]=[]
  ·simp only[hg,h0,aC,aX,Int.natCast_one,cA,eB,show(0:Int)<1 by omega,bE,List.getD_cons_zero];exact step [] (by unfold kF;rw[hg,ah (.inl h0)])
  ·simp only[hg,h0,aB];by_cases hlen:s[i].length=1
   ·obtain⟨x,hx⟩:=List.length_eq_one_iff.1 hlen;simp only[hx,aX,Int.natCast_one,cA,aC,eB,show(0:Int)<1 by omega,bE,List.getD_cons_zero];by_cases e:x= -1-(i:Int)
    ·simp only[e,cA,aC];exact step [] (by unfold kF;rw[hg,ah (.inr (by rw[hx,e]))])
    ·have:¬(x== -1-(i:Int))=true:=by simpa using e
     simp only[this,aB];exact step [x] (by unfold kF;rw[hg,hx,aj (by simp[e])])
   ·have:¬((s[i].length:Int)==1)=true:=by simp only[bw];omega
    simp only[this,aB];refine step s[i] ?_;unfold kF;rw[hg,aj];rintro(h|h)
    ·exact h0 h
    ·exact hlen (by rw[h];rfl)
 ·simp only[show ¬(i:Int)<s.length by omega,aU,ak,aB];have hall:∀j,o.getD j []=kF s j:=fun j=>by
   by_cases hj:j<i
   ·exact h3 j hj
   ·rw[uc h_];unfold kF;rw[uc (s:=s) h_];simp
  refine jN.inr ?_;simp only[yc];refine jN.loop (fun o':Bd=>o'.length<=24/\∀j,o'.getD j []=kF s j) (fun o':Bd=>o'.length) ⟨h_,hall⟩ ?_;rintro o' ⟨h4,h5⟩;simp only[sS];by_cases h6:0<o'.length
  ·have hw:IntKind.i64.wrap ((o'.length:Int)-1)=o'.length-1:=lz h_ h_;have ht:((o'.length:Int)-1).toNat=o'.length-1:=by omega
   have hlt:o'.length-1<o'.length:=by omega
   simp only[show(0:Int)<o'.length by omega,aQ,aC,hw,show 0<=(o'.length:Int)-1 by omega,show(o'.length:Int)-1<o'.length by omega,show(o'.length:Int)-1<=o'.length by omega,bE,ht,iI hlt];by_cases h7:o'[o'.length-1]=[]
   ·simp only[h7,bL,gk,cA,aC];refine .some ⟨⟨by simp;omega,fun j=>?_⟩,by simp;omega⟩;rw[<-h5 j,List.getD_eq_getElem?_getD,List.getD_eq_getElem?_getD,cj];split
    ·rfl
    ·by_cases hj:j=o'.length-1
     ·subst hj;rw[az hlt,h7];rfl
     ·rw[bH h_]
   ·have:=cc.2 h7;have:¬((o'[o'.length-1].length:Int)==0)=true:=by simp only[bw];omega
    simp only[this,aB,aM];exact .some ⟨h4,h5⟩
  ·simp only[show ¬(0:Int)<o'.length by omega,aU,ak,aB,aM];exact .some ⟨h4,h5⟩
theorem vI{a p t:gB}(ha:ku a=true)(hp:Wf a 1 p)(ht:Wf a 1 t)(hpl:p.length<=60)(htl:t.length<=60):jN True (oM a p t) (sW (uW a p t jQ)):=by
 have hn:∀u∈jQ,u.length<=60:=by intro u hu;simp[jQ]at hu;subst hu;simp
 unfold oM;rw[show(List.replicate 24 []:Bd)=jQ from rfl];refine jN.loop (fun s:Int×Int×Bd=>∃i c:Nat,s.1=(c:Int)/\s.2.1=(i:Int)/\Sx a p t jQ s.2.2 i c) (fun s:Int×Int×Bd=>p.length-s.2.1.toNat)
  ⟨0,0,rfl,rfl,h_,h_,by simp[jQ],hn,⟨1,by simpa using hp,by simpa using ht⟩,by simp⟩ ?_
 rintro⟨_,_,b⟩ ⟨i,c,rfl,rfl,h⟩;simp only at h;have hb:=h.hb;simp only[sV];by_cases hi:i<p.length
 ·have hc:=h.SC hi;simp only[show(i:Int)<p.length by omega,show ¬(t.length:Int)<=c by omega,aQ,aU,aC,show(0:Int)<=i by omega,show(0:Int)<=c by omega,show(c:Int)<t.length by omega,bE,
   ak,aB,au,iI hi,iI hc,lz (n:=(i:Int)+1) h_ h_,lz (n:=(c:Int)+1) h_ h_]
  by_cases hn:p[i]<0
  ·obtain⟨u,r,e,hu,hl,ho,hm,hk⟩:=h.var hi hn;have hul:=hu.len;have hx: -24<=p[i]:=ho.1;have hlt:(-1-p[i]).toNat<b.length:=by omega
   simp only[show ¬0<=p[i] by omega,aU,ak,aB,uy ha (show Small t by show t.length<_;omega) e hu,aa,
    lz (n:= -1-p[i]) h_ h_,show 0<= -1-p[i] by omega,show -1-p[i]<24 by omega,bE,aC,hb,show((-1:Int)-p[i]<((24:Nat):Int)) by omega,
    lz (n:=(c:Int)+u.length) h_ h_]
   have eg:b.getD (-1-p[i]).toNat default=kE b p[i]:=rfl;rw[eg];by_cases h0:kE b p[i]=[]
   ·rw[ah h0]at hm;simp only[h0,bL,gk,Int.lt_irrefl,aU,ak,aB];exact .some ⟨⟨i+1,c+u.length,by simp,by simp,h_,h_,by simpa using hb,Aa h.FO h_,hk,by rw[hm];rfl⟩,by simp;omega⟩
   ·rw[aj h0]at hm;have hp0:=cc.2 h0;simp only[show(0:Int)<((kE b p[i]).length:Int) by omega,aQ,aC,o_ (show Small (kE b p[i]) by show List.length _<_;have:=z_ (n:=p[i]) h.FO;omega),aa];by_cases h1:kE b p[i]=u
    ·rw[ah h1]at hm;simp only[h1,cA,aC];have hset:b.set (-1-p[i]).toNat u=b:=by
      have:b[(-1-p[i]).toNat]=u:=by rw[<-h1];exact(iI hlt).symm
      rw[<-this];exact List.set_getElem_self hlt
     rw[hset];exact .some ⟨⟨i+1,c+u.length,by simp,by simp,h_,h_,hb,h.FO,hk,hm.symm⟩,by simp;omega⟩
    ·rw[aj h1]at hm;have:¬(kE b p[i]==u)=true:=by simpa using h1
     simp only[this,aB,aM];refine .some ?_;simp only[yc,sW,hm]
  ·obtain⟨hc',ho,hm,hk⟩:=h.sym hi hn;simp only[show 0<=p[i] by omega,aQ,aC];by_cases e:t[c]=p[i]
   ·rw[ah e]at hm;simp only[e,eZ,ak,aB];exact .some ⟨⟨i+1,c+1,by simp,by simp,h_,h_,hb,h.FO,hk e,hm.symm⟩,by simp;omega⟩
   ·rw[aj e]at hm;have:(p[i] != t[c])=true:=by simpa using fun h=>e h.symm
    simp only[this,aC,aM];refine .some ?_;simp only[yc,sW,hm]
 ·have hm:=h.m;rw[bM h_,AN]at hm;simp only[show ¬(i:Int)<p.length by omega,aU,ak,aB,hb,aC];refine jN.inr ?_;refine jN.bind (As h_ h.FO) fun o ho=>.some ?_
  simp only[yc,sW,<-hm];exact⟨trivial,ho.1,ho.2⟩
theorem DS{σ:Int->gB}{t:gB}{i:Nat}(hi:i<t.length):sub σ (t.take (i+1))=sub σ (t.take i)++(if t[i]<0 then σ t[i]else [t[i]]):=by
 rw[dP,az hi,kN];simp[sub]
theorem yQ{σ:Int->gB}{t:gB}{i:Nat}:(sub σ (t.take i)).length<=(sub σ t).length:=by
 have:sub σ t=sub σ (t.take i)++sub σ (t.drop i):=by rw[<-kN,cJ]
 rw[this];simp
def s_(σ:Int->gB)(t:gB):Option gB:=if(sub σ t).length<=60 then some (sub σ t)else none
def pI(o:Option gB):gB×Bool:=match o with|some x=>(x,true)|none=>([],false)
theorem Cc{s:Bd}(hl:s.length<=24){i:Nat}(hi:i<=24):nh s i=some (s.getD i []):=by
 unfold nh;by_cases h:i<s.length
 ·have hg:s.getD i []=s[i]:=iI h;simp only[show ¬(s.length:Int)<=i by omega,aU,ak,aB,show(0:Int)<=i by omega,show(i:Int)<s.length by omega,bE,aC,au,iI h,hg];by_cases h0:s[i]=[]
  ·simp[h0]
  ·have:=cc.2 h0;have h2:¬((s[i].length:Int)==0)=true:=by simp only[bw];omega
   simp only[h2,ak,aB,this,aC]
 ·simp only[show(s.length:Int)<=i by omega,aQ,aC,uc (s:=s) (i:=i) h_]
theorem Ev{σ:Int->gB}{t:gB}{i:Nat}(hi:i<t.length){out u:gB}(ho:out=sub σ (t.take i))(hu:u=if t[i]<0 then σ t[i]else [t[i]]):
 (60<(out++u).length->s_ σ t=none)/\out++u=sub σ (t.take (i+1)):=by
 have e:out++u=sub σ (t.take (i+1)):=by rw[DS hi,ho,hu]
 refine⟨fun h=>?_,e⟩;rw[e]at h;unfold s_;rw[aj];have:=yQ (σ:=σ) (t:=t) (i:=i+1);omega
theorem CJ{s:Bd}{t:gB}(hl:s.length<=24)(hs:∀i,(s.getD i []).length<=60)(ht:t.length<=60)(hx:∀x∈t, -24<=x):sk s t=some (pI (s_ (Tm.sig s) t)):=by
 have key:jN True (sk s t) (·=pI (s_ (Tm.sig s) t)):=by
  unfold sk;simp only[oA,aa,show 0<=(t.length:Int)/\8*(t.length:Int)<=281474976710656 by omega,bE,aC];refine jN.loop (fun q:gB×Int=>∃i:Nat,q.2=i/\i<=t.length/\q.1=sub (Tm.sig s) (t.take i)/\q.1.length<=60) (fun q:gB×Int=>t.length-q.2.toNat) ⟨0,rfl,h_,by simp[sub],by simp⟩ ?_;rintro⟨out,_⟩ ⟨i,rfl,h1,h2,h3⟩;simp only at h2 h3;simp only[vc];by_cases hi:i<t.length
  ·have hxi:=hx _ (bB hi);simp only[show(i:Int)<t.length by omega,aQ,aC,show(0:Int)<=i by omega,bE,au,iI hi,lz (n:=(i:Int)+1) h_ h_];have fin:∀u:gB,u.length<=60->u=(if t[i]<0 then Tm.sig s t[i]else [t[i]])->jN True (if decide (60<((out++u).length:Int))=true then Option.map Sum.inr (some (([]:gB),false))else some (Sum.inl (out++u,(i:Int)+1)))
    (yc (fun q:gB×Int=>∃i:Nat,q.2=i/\i<=t.length/\q.1=sub (Tm.sig s) (t.take i)/\q.1.length<=60) (fun q:gB×Int=>t.length-q.2.toNat) (·=pI (s_ (Tm.sig s) t)) (t.length-i)):=fun u hu e=>by
    obtain⟨h4,h5⟩:=Ev hi h2 e;by_cases h6:60<(out++u).length
    ·simp only[show(60:Int)<((out++u).length:Int) by omega,aQ,aC,aM];refine .some ?_;simp only[yc,h4 h6,pI]
    ·simp only[show ¬(60:Int)<((out++u).length:Int) by omega,aU,ak,aB];exact .some ⟨⟨i+1,by simp,h_,h5,by simp only;omega⟩,by simp;omega⟩
   unfold nI;by_cases hn:t[i]<0
   ·have hi24:((-1-t[i]).toNat:Int)= -1-t[i]:=by omega
    simp only[show ¬0<=t[i] by omega,aU,ak,aB,lz (n:= -1-t[i]) h_ h_];rw[<-hi24,Cc hl h_,aa,aa];have hb:s.getD (-1-t[i]).toNat []=kE s t[i]:=rfl;rw[hb];have hbl:(kE s t[i]).length<=60:=hs _;by_cases h0:kE s t[i]=[]
    ·simp only[h0,gi,aC,show(out.length+1)*8<=140737488355328 by omega];exact fin [t[i]] (by simp) (by rw[ah hn];unfold Tm.sig;rw[ah h0])
    ·have:¬(kE s t[i]).isEmpty=true:=by simpa using h0
     simp only[this,aB,show(out.length+(kE s t[i]).length)*8<=140737488355328 by omega,aC];exact fin (kE s t[i]) hbl (by rw[ah hn];unfold Tm.sig;rw[aj h0])
   ·simp only[show 0<=t[i] by omega,aQ,aC,aa,gi,show(out.length+1)*8<=140737488355328 by omega];exact fin [t[i]] (by simp) (by rw[aj hn])
  ·simp only[show ¬(i:Int)<t.length by omega,aU,ak,aB,aM];refine .some ?_;rw[cg h_]at h2;simp only[yc,s_,<-h2,h3,aC,pI]
 exact key.eq
theorem zV{s:Bd}{t:gB}(hl:s.length<=24)(hs:∀u∈s,u.length<=60)(ht:t.length<=60)(hx:∀x∈t, -24<=x):nQ s t=some (pI (s_ (Tm.sig s) t)):=by
 have key:jN True (nQ s t) (·=pI (s_ (Tm.sig s) t)):=by
  unfold nQ;refine jN.loop (fun q:gB×Int=>∃i:Nat,q.2=i/\i<=t.length/\q.1=sub (Tm.sig s) (t.take i)/\q.1.length<=60) (fun q:gB×Int=>t.length-q.2.toNat) ⟨0,rfl,h_,by simp[sub],by simp⟩ ?_;rintro⟨out,_⟩ ⟨i,rfl,h1,h2,h3⟩;simp only at h2 h3;simp only[rY];by_cases hi:i<t.length
  ·have hxi:=hx _ (bB hi);simp only[show(i:Int)<t.length by omega,aQ,aC,show(0:Int)<=i by omega,bE,au,iI hi,lz (n:=(i:Int)+1) h_ h_];have fin:∀u:gB,u.length<=60->u=(if t[i]<0 then Tm.sig s t[i]else [t[i]])->jN True (if decide (60<((out++u).length:Int))=true then Option.map Sum.inr (some (([]:gB),false))else some (Sum.inl (out++u,(i:Int)+1)))
    (yc (fun q:gB×Int=>∃i:Nat,q.2=i/\i<=t.length/\q.1=sub (Tm.sig s) (t.take i)/\q.1.length<=60) (fun q:gB×Int=>t.length-q.2.toNat) (·=pI (s_ (Tm.sig s) t)) (t.length-i)):=fun u hu e=>by
    obtain⟨h4,h5⟩:=Ev hi h2 e;by_cases h6:60<(out++u).length
    ·simp only[show(60:Int)<((out++u).length:Int) by omega,aQ,aC,aM];refine .some ?_;simp only[yc,h4 h6,pI]
    ·simp only[show ¬(60:Int)<((out++u).length:Int) by omega,aU,ak,aB];exact .some ⟨⟨i+1,by simp,h_,h5,by simp only;omega⟩,by simp;omega⟩
   by_cases hn:t[i]<0
   ·have hi24:((-1-t[i]).toNat:Int)= -1-t[i]:=by omega
    simp only[hn,aQ,aC,lz (n:= -1-t[i]) h_ h_];rw[<-hi24,vH hs hl h_,aa,hi24];have hb:s.getD (-1-t[i]).toNat []=kE s t[i]:=rfl;rw[hb];have hbl:(kE s t[i]).length<=60:=z_ hs;by_cases h0:kE s t[i]=[]
    ·simp only[h0,aC,aX,show(out.length+1)*8<=140737488355328 by omega,show -1-(-1-t[i])=t[i] by omega];exact fin [t[i]] (by simp) (by rw[ah hn];unfold Tm.sig;rw[ah h0])
    ·simp only[h0,aB,show(out.length+(kE s t[i]).length)*8<=140737488355328 by omega,aC];exact fin (kE s t[i]) hbl (by rw[ah hn];unfold Tm.sig;rw[aj h0])
   ·simp only[hn,aU,ak,aB,show(out.length+1)*8<=140737488355328 by omega,aC];exact fin [t[i]] (by simp) (by rw[aj hn])
  ·simp only[show ¬(i:Int)<t.length by omega,aU,ak,aB,aM];refine .some ?_;rw[cg h_]at h2;simp only[yc,s_,<-h2,h3,aC,pI]
 exact key.eq
theorem vf{xs:List gB}(hl:xs.length<=3)(hs:∀u∈xs,u.length<=60):jV xs=some xs.flatten:=by
 have hfl:∀i,i<=xs.length->(xs.take i).flatten.length<=60*i:=fun i=>by
  induction i with
  |zero=>simp
  |succ i ih=>
   intro hi;have h1:i<xs.length:=by omega
   rw[dP,az h1,eK,ai];have:=ih h_;have:=hs _ (bB h1);simp only[Option.toList_some,ct,List.flatten_nil,bh];omega
 have tk:∀i (h1:i<xs.length),(xs.take (i+1)).flatten=(xs.take i).flatten++xs[i]:=fun i h1=>by rw[dP,az h1,eK];simp
 have key:jN True (jV xs) (·=xs.flatten):=by
  unfold jV;refine jN.loop (fun q:Int×Int=>∃i:Nat,q.2=i/\i<=xs.length/\q.1=((xs.take i).flatten.length:Int)) (fun q:Int×Int=>xs.length-q.2.toNat) ⟨0,rfl,h_,by simp⟩ ?_;rintro⟨_,_⟩ ⟨i,rfl,h1,rfl⟩;simp only[lR];have hb:=hfl i h1;by_cases hi:i<xs.length
  ·have hu:=hs _ (bB hi);simp only[show(i:Int)<xs.length by omega,aQ,aC,show(0:Int)<=i by omega,bE,au,iI hi,lz (n:=(i:Int)+1) h_ h_,
    lz (n:=((xs.take i).flatten.length:Int)+(xs[i].length:Int)) h_ h_,show ¬((xs.take i).flatten.length:Int)+(xs[i].length:Int)<0 by omega,aU,ak,aB]
   exact .some ⟨⟨i+1,by simp,h_,by rw[tk i hi];simp⟩,by simp;omega⟩
  ·simp only[show ¬(i:Int)<xs.length by omega,aU,ak,aB,nO,show 0<=((xs.take i).flatten.length:Int)/\((xs.take i).flatten.length:Int)*8<=140737488355328 by omega,bE,aC,aa];refine jN.inr ?_;simp only[yc];refine jN.loop (fun q:gB×Int=>∃i:Nat,q.2=i/\i<=xs.length/\q.1=(xs.take i).flatten) (fun q:gB×Int=>xs.length-q.2.toNat) ⟨0,rfl,h_,by simp⟩ ?_;rintro⟨_,_⟩ ⟨j,rfl,h2,rfl⟩;simp only[lS];have hb:=hfl j h2;by_cases hj:j<xs.length
   ·have hu:=hs _ (bB hj);simp only[show(j:Int)<xs.length by omega,aQ,aC,show(0:Int)<=j by omega,bE,au,iI hj,lz (n:=(j:Int)+1) h_ h_,
     show((xs.take j).flatten.length+xs[j].length)*8<=140737488355328 by omega]
    exact .some ⟨⟨j+1,by simp,h_,by rw[tk j hj]⟩,by simp;omega⟩
   ·simp only[show ¬(j:Int)<xs.length by omega,aU,ak,aB,aM];refine .some ?_;simp only[yc];rw[cg h_]
 exact key.eq
def LV(a t:gB)(i:Nat)(v:gB):Option gB:=if(G5 a t i v).length<=60 then some (G5 a t i v)else none
theorem D5{a p u s v:gB}(ha:ku a=true)(hu:Wf a 1 u)(hm:∀x∈p++(u++s), -24<=x)(hl:(p++(u++s)).length<=60)(hv:v.length<=60):
 qm a (p++(u++s)) (p.length:Int) v=some (pI (LV a (p++(u++s)) p.length v)):=by
 have hd:(p++(u++s)).drop p.length=u++s:=bT;have hl':=hl;simp only[ai]at hl';unfold qm;rw[ah (by simp only[ai];omega),uk ha (by show List.length _<_;omega) hm (by simp),aa,AB hd hu];have e1:((p++(u++s)).length:Int)-s.length=((p.length+u.length:Nat):Int):=by simp;omega
 rw[e1,ah (by simp;omega),au,au,dS,<-List.drop_drop,hd,bT];rw[vf (by simp) (by intro w hw;simp at hw;rcases hw with rfl|rfl|rfl<;>omega),aa];unfold LV;rw[A0 hu];have e2:[p,v,s].flatten=p++(v++s):=by simp
 rw[e2];by_cases h:(p++(v++s)).length<=60
 ·simp only[show ¬(60:Int)<((p++(v++s)).length:Int) by omega,aU,ak,aB,h,aC,pI]
 ·simp only[show(60:Int)<((p++(v++s)).length:Int) by omega,aQ,aC,h,aB,pI]
theorem Cg{a p u s v:gB}(ha:ku a=true)(hu:Wf a 1 u)(hl:(p++(u++s)).length<=60)(hv:v.length<=60):
 sU a (p++(u++s)) (p.length:Int) v=some (pI (LV a (p++(u++s)) p.length v)):=by
 have hd:(p++(u++s)).drop p.length=u++s:=bT;have hl':=hl;simp only[ai]at hl';unfold sU;rw[ah (by simp only[ai];omega),au,dS,m_ (by show List.length _<_;omega),aa,ah h_,uw ha (by show List.length _<_;omega) (by simp),aa,AB hd hu];have e1:((p++(u++s)).length:Int)-s.length=((p.length+u.length:Nat):Int):=by simp;omega
 rw[e1,ah (by simp;omega),au,<-List.drop_drop,hd,bT,ah (by simp;omega),aH];unfold LV;rw[A0 hu];by_cases h:(p++(v++s)).length<=60
 ·simp only[show ¬(60:Int)<((p++(v++s)).length:Int) by omega,aU,ak,aB,h,aC,pI]
 ·simp only[show(60:Int)<((p++(v++s)).length:Int) by omega,aQ,aC,h,aB,pI]
abbrev Sys:=gB×List gD
theorem jO{s:Sys}:jR s=true<->ku s.1=true/\s.2.length<=12/\∀r∈s.2,wm s.1 r=true:=by simp[jR]
theorem kr{a:gB}{r:gB×gB}:wm a r=true<->iK a r.1=true/\iK a r.2=true/\0<=r.1.headD 0/\∀x∈r.2,x<0->x∈r.1:=by simp only[wm,KM,a_,av,bN]
def oq(s:Sys)(t:gB)(i rule:Nat):Option gB:=DP s.1 (s.2.getD rule default).1 (s.2.getD rule default).2 t i
theorem B3{b o:Bd}(hb:∀u∈b,u.length<=60)(h:∀i,o.getD i []=kF b i):(∀i,(o.getD i []).length<=60)/\∀u∈o,u.length<=60:=by
 have h1:∀i,(o.getD i []).length<=60:=fun i=>by
  rw[h];unfold kF;split
  ·simp
  ·rw[List.getD_eq_getElem?_getD];cases hx:b[i]? with
   |none=>simp
   |some u=>exact hb u (bO hx)
 refine⟨h1,fun u hu=>?_⟩;obtain⟨i,hi,rfl⟩:=fG hu;have:=h1 i;rwa [show o.getD i []=o[i]from iI hi]at this
theorem Da{b o:Bd}(h:∀i,o.getD i []=kF b i)(t:gB):s_ (Tm.sig o) t=s_ (Tm.sig b) t:=by
 unfold s_;rw[sub_congr fun x _ hx=>LS h hx]
theorem Hw{a l r p u s:gB}(hu:Wf a 1 u):DP a l r (p++(u++s)) p.length=(uW a l u jQ).bind fun b=>(s_ (Tm.sig b) r).bind fun v=>LV a (p++(u++s)) p.length v:=by
 unfold DP;rw[xN hu];congr 1;funext b;unfold s_ LV;by_cases h1:(sub (Tm.sig b) r).length<=60
 ·rw[ah h1,aa];by_cases h2:(G5 a (p++(u++s)) p.length (sub (Tm.sig b) r)).length<=60
  ·rw[ah ⟨h1,h2⟩,ah h2]
  ·rw[aj (fun h=>h2 h.2),aj h2]
 ·rw[aj (fun h=>h1 h.1),aj h1];rfl
theorem yb{s:Sys}{t:gB}{i rule:Nat}(hs:jR s=true)(ht:iK s.1 t=true)(hi:i<t.length)(hr:rule<s.2.length):su s t i rule=some (pI (oq s t i rule)):=by
 obtain⟨ha,_,hrs⟩:=jO.1 hs;obtain⟨_,h1,h2,hw⟩:=ij.1 ht;obtain⟨p,u,q,rfl,rfl,hu⟩:=hw.place hi;have hrule:=kr.1 (hrs _ (jB hr));obtain⟨hL,hR,_,hv⟩:=hrule;obtain⟨_,hL1,hL2,hL3⟩:=ij.1 hL;obtain⟨_,hR1,hR2,hR3⟩:=ij.1 hR;have hm:∀x∈p++(u++q), -24<=x:=fun x hx=>(hw.all x hx).1
 have hul:u.length<=60:=by simp at h2;omega
 unfold su oq;rw[ah h_,pQ ha (by show List.length _<_;omega) hm bT hu,aa,au];obtain⟨o,e1,e2⟩:=(um ha hL3 hu hL2 hul).get;rw[e1,aa,Hw hu];cases hmat:uW s.1 (s.2.getD rule default).1 u jQ with
 |none=>
  rw[hmat]at e2;simp only[sW]at e2;simp only[e2,ak,aB,f_,pI]
 |some b=>
  rw[hmat]at e2;obtain⟨e3,e4,e5⟩:=e2;obtain⟨hb1,hb2⟩:=uX hmat (by intro u hu;simp[jQ]at hu;subst hu;simp) hul (by simp[jQ]);obtain⟨hp1,hp2⟩:=B3 hb2 e5;rw[ah e3,ah h_,CJ e4 hp1 hR2 (fun x hx=>(hR3.all x hx).1),aa,aa,Da e5];cases hf:s_ (Tm.sig b) (s.2.getD rule default).2 with
  |none=>simp[pI]
  |some v=>
   have hv60:v.length<=60:=by
    unfold s_ at hf;split at hf
    ·rename_i h;cases hf;exact h
    ·cases hf
   simp only[pI,aC,aa];rw[D5 ha hu hm h2 hv60];rfl
theorem wD{s:Sys}{t:gB}{i rule:Nat}(hs:jR s=true)(ht:iK s.1 t=true)(hi:i<t.length)(hr:rule<s.2.length):p_ s t i rule=some (pI (oq s t i rule)):=by
 obtain⟨ha,_,hrs⟩:=jO.1 hs;obtain⟨_,h1,h2,hw⟩:=ij.1 ht;obtain⟨p,u,q,rfl,rfl,hu⟩:=hw.place hi;have hrule:=kr.1 (hrs _ (jB hr));obtain⟨hL,hR,_,hv⟩:=hrule;obtain⟨_,hL1,hL2,hL3⟩:=ij.1 hL;obtain⟨_,hR1,hR2,hR3⟩:=ij.1 hR;have hul:u.length<=60:=by simp at h2;omega
 unfold p_ oq;rw[ah h_,uy ha (by show List.length _<_;omega) bT hu,aa,au];obtain⟨o,e1,e2⟩:=(vI ha hL3 hu hL2 hul).get;rw[e1,aa,Hw hu];cases hmat:uW s.1 (s.2.getD rule default).1 u jQ with
 |none=>
  rw[hmat]at e2;simp only[sW]at e2;simp only[e2,ak,aB,f_,pI]
 |some b=>
  rw[hmat]at e2;obtain⟨e3,e4,e5⟩:=e2;obtain⟨hb1,hb2⟩:=uX hmat (by intro u hu;simp[jQ]at hu;subst hu;simp) hul (by simp[jQ]);obtain⟨hp1,hp2⟩:=B3 hb2 e5;rw[ah e3,zV e4 hp2 hR2 (fun x hx=>(hR3.all x hx).1),aa,aa,Da e5];cases hf:s_ (Tm.sig b) (s.2.getD rule default).2 with
  |none=>simp[pI]
  |some v=>
   have hv60:v.length<=60:=by
    unfold s_ at hf;split at hf
    ·rename_i h;cases hf;exact h
    ·cases hf
   simp only[pI,aC,aa];rw[Cg ha hu h2 hv60];rfl
def t_(s:Sys)(t:gB)(i rule:Int):Option gB:=
 if(jR s=true/\iK s.1 t=true)/\(0<=i/\i<t.length)/\(0<=rule/\rule<s.2.length)then oq s t i.toNat rule.toNat else none
theorem vJ(s:Sys)(t:gB):mq s t=some (jR s&&iK s.1 t):=by
 unfold mq;rw[pn,aa];cases h1:jR s with
 |false=>simp
 |true=>simp[oG]
theorem zK{s:Sys}{t u:gB}{i rule:Int}(h:t_ s t i rule=some u):u.length<=60:=by
 unfold t_ at h;split at h
 ·unfold oq DP at h;obtain⟨b,_,h⟩:=aq.1 h;split at h
  ·rename_i hc;cases h;exact hc.2
  ·cases h
 ·cases h
abbrev P7:=Int×Int×gB
theorem tc{σ γ:Type}{n:Nat}(st:Nat->σ){c:γ}{f:σ->Option (σ⊕γ)}(h:∀i,i<n->f (st i)=some (.inl (st (i+1))))(he:f (st n)=some (.inr c)):iB f (st 0)=some c:=by
 have key:∀k i,i+k=n->iB f (st i)=some c:=by
  intro k;induction k with
  |zero=>
   intro i hi;obtain rfl:i=n:=by omega
   exact iL he
  |succ k ih=>intro i hi;rw[iW (h i h_)];exact ih (i+1) h_
 exact key n 0 h_
theorem drop_cons{α:Type}[Inhabited α]{a:List α}{i:Nat}{x:α}{r:List α}(h:a.drop i=x::r):i<a.length/\a.getD i default=x/\a.drop (i+1)=r:=by
 have hlt:i<a.length:=Nat.lt_of_not_le fun hn=>by rw[bM hn]at h;cases h
 rw[aE hlt]at h;simp only[bV]at h;exact⟨hlt,by rw[iI hlt,h.1],h.2⟩
abbrev LL:=List gB
abbrev Sy:=Int×Int×Bool×gB
abbrev Up:=gB×List Sy
abbrev MD:=gB×gB
def JQ(a:gB)(e:MD):Bool:=iK a e.1&&iK a e.2
def E4(a:gB)(eqs:List MD):Bool:=ku a&&(decide (eqs.length<=12)&&eqs.all (JQ a))
theorem Gl{a:gB}{e:MD}:JQ a e=true<->iK a e.1=true/\iK a e.2=true:=by simp[JQ]
theorem Et{a:gB}{eqs:List MD}:E4 a eqs=true<->ku a=true/\eqs.length<=12/\∀e∈eqs,JQ a e=true:=by simp[E4]
def Kw(eqs:List MD)(m:Sy):gB:=if m.2.2.1=true then(eqs.getD m.1.toNat default).2 else(eqs.getD m.1.toNat default).1
def Kx(eqs:List MD)(m:Sy):gB:=if m.2.2.1=true then(eqs.getD m.1.toNat default).1 else(eqs.getD m.1.toNat default).2
def Y0(eqs:List MD)(t:gB)(m:Sy):Prop:=(0<=m.1/\m.1<eqs.length)/\(0<=m.2.1/\m.2.1<t.length)/\m.2.1<m.2.2.2.length
instance(eqs:List MD)(t:gB)(m:Sy):Decidable (Y0 eqs t m):=by unfold Y0;infer_instance
def GV(a:gB)(eqs:List MD)(t:gB)(m:Sy):Bool:=decide (Y0 eqs t m)&&(iK a m.2.2.2&&Y2 a (Kw eqs m) (Kx eqs m) t m.2.2.2 m.2.1.toNat)
theorem Ou{a:gB}{eqs:List MD}{t:gB}{m:Sy}(h:GV a eqs t m=true):iK a m.2.2.2=true:=by simp only[GV,a_]at h;exact h.2.1
theorem LN{a:gB}{eqs:List MD}{t:gB}{m:Sy}(he:E4 a eqs=true)(ht:iK a t=true):
 GV a eqs t m=true<->(0<=m.1/\m.1<eqs.length)/\0<=m.2.1/\iK a m.2.2.2=true/\Mv a (Kw eqs m) (Kx eqs m) t m.2.2.2 m.2.1.toNat:=by
 obtain⟨ha,hel,hall⟩:=Et.1 he;obtain⟨_,t1,t2,t3⟩:=ij.1 ht;have sides:(0<=m.1/\m.1<eqs.length)->Wf a 1 (Kw eqs m)/\Wf a 1 (Kx eqs m):=fun h=>by
  obtain⟨hL,hR⟩:=Gl.1 (hall _ (jB (show m.1.toNat<eqs.length by omega)));unfold Kw Kx;cases m.2.2.1 with
  |true=>exact⟨(ij.1 hR).2.2.2,(ij.1 hL).2.2.2⟩
  |false=>exact⟨(ij.1 hL).2.2.2,(ij.1 hR).2.2.2⟩
 simp only[GV,a_,av];unfold Y0;constructor
 ·rintro⟨⟨h1,h2,h3⟩,h4,h5⟩;exact⟨h1,h2.1,h4,(J_ (sides h1).1 (sides h1).2 t3 (ij.1 h4).2.2.2 h_ h_).1 h5⟩
 ·rintro⟨h1,h2,h4,h5⟩;have h5':=h5;obtain⟨p,s,σ,hp,e1,e2,hσ⟩:=h5';have l1:=((sides h1).1.sub fun x _ hx=>hσ x hx).len;have l2:=((sides h1).2.sub fun x _ hx=>hσ x hx).len;have e1:=bS List.length e1;have e2:=bS List.length e2;simp only[ai]at e1 e2;exact⟨⟨h1,⟨h2,h_⟩,h_⟩,h4,(J_ (sides h1).1 (sides h1).2 t3 (ij.1 h4).2.2.2 h_ h_).2 h5⟩
theorem Sc{s:Sys}(h:jR s=true):E4 s.1 s.2=true:=by
 obtain⟨h1,h2,h3⟩:=jO.1 h;exact Et.2 ⟨h1,h2,fun e he=>let h:=kr.1 (h3 e he);Gl.2 ⟨h.1,h.2.1⟩⟩
theorem Hv{s:Sys}{t u:gB}{x:P7}(h:t_ s t x.1 x.2.1=some u)(hu:(u==x.2.2)=true):GV s.1 s.2 t (x.2.1,x.1,false,x.2.2)=true:=by
 have hl:=zK h;unfold t_ at h;split at h
 ·rename_i hc;obtain⟨⟨hs,ht⟩,hi,hr⟩:=hc;obtain rfl:u=x.2.2:=by simpa using hu
  obtain⟨_,_,h3⟩:=jO.1 hs;obtain⟨hL,hR,_,hv⟩:=kr.1 (h3 _ (jB (show x.2.1.toNat<s.2.length by omega)));have wL:=(ij.1 hL).2.2.2;have wR:=(ij.1 hR).2.2.2;obtain⟨ha,_,_,wt⟩:=ij.1 ht;obtain⟨hm,_⟩:=DQ wL wR wt (show x.1.toNat<t.length by omega) hv h;have wu:=hm.wf wL wR wt;exact(LN (Sc hs) ht).2 ⟨hr,hi.1,ij.2 ⟨ha,wu.len,hl,wu⟩,hm⟩
 ·cases h
def nP{α:Type}(p:α->Bool)(xs:List α):Int:=match xs.findIdx? p with|some j=>(j:Int)|none=> -1
theorem tU{α:Type}[Inhabited α]{xs:List α}{p:α->Bool}{f:Int->Option (Int⊕Int)}
 (h:∀(i:Nat)(x:α),i<xs.length->x∈xs->xs.getD i default=x->f (i:Int)=some (if p x=true then .inr (i:Int)else .inl ((i:Int)+1)))
 (he:f xs.length=some (.inr (-1))):iB f 0=some (nP p xs):=by
 have key:∀(k i:Nat),i+k=xs.length->iB f (i:Int)=some (match(xs.drop i).findIdx? p with|some j=>((i+j:Nat):Int)|none=> -1):=by
  intro k;induction k with
  |zero=>
   intro i hi;obtain rfl:i=xs.length:=by omega
   rw[iL he,gj];rfl
  |succ k ih=>
   intro i hi;have hlt:i<xs.length:=by omega
   have e:=h i _ hlt (bB hlt) (iI hlt);rw[aE hlt,List.findIdx?_cons];cases hp:p (xs[i])with
   |true=>rw[hp]at e;rw[iL e];simp
   |false=>
    rw[hp]at e;rw[iW e,show((i:Int)+1)=((i+1:Nat):Int) by omega,ih (i+1) h_];cases hf:(xs.drop (i+1)).findIdx? p with
    |none=>simp
    |some j=>
     simp only[ak,aB,aM];show some (((i+1+j:Nat):Int))=some (((i+(j+1):Nat):Int));rw[show i+1+j=i+(j+1) by omega]
 have:=key xs.length 0 h_;simp only[bF,ck]at this;exact this
def B5(s:Sys)(u:gB):Int:=nP (fun r=>(uW s.1 r.1 u jQ).isSome) s.2
theorem Lm{α:Type}{p:α->Bool}{xs:List α}: -1<=nP p xs/\nP p xs<xs.length:=by
 unfold nP;cases h:xs.findIdx? p with
 |none=>simp only;omega
 |some j=>have:=(List.findIdx?_eq_some_iff_getElem.1 h).1;simp only;omega
theorem yo{α:Type}{p:α->Bool}{xs:List α}(h:∀x∈xs,p x=false):nP p xs= -1:=by
 unfold nP;rw[eW.2 h]
theorem za{α:Type}{p:α->Bool}{xs:List α}{x:α}(hx:x∈xs)(hp:p x=true):0<=nP p xs:=by
 unfold nP;cases h:xs.findIdx? p with
 |none=>have:=eW.1 h x hx;rw[hp]at this;cases this
 |some j=>simp only;omega
theorem MS{a t:gB}(ht:iK a t=true){i:Nat}(hi:i<t.length):∃q,t.drop i=iS a t i++q/\Wf a 1 (iS a t i)/\(iS a t i).length<=60/\∃u,iS a t i=t[i]::u:=by
 obtain⟨_,_,t2,t3⟩:=ij.1 ht;obtain⟨p,u,q,e,hp,hu⟩:=t3.place hi;have ha:iS a t i=u:=by rw[e,<-hp];exact xN hu
 have hd:t.drop i=u++q:=by rw[e,<-hp];exact bT
 rw[ha];refine⟨q,hd,hu,?_,?_⟩
 ·have:=bS List.length e;simp only[ai]at this;omega
 ·obtain⟨y,r,e2,_,_⟩:=hu.pos;subst e2;rw[aE hi,bC]at hd;exact⟨r,by rw[(bk hd).1]⟩
theorem AO{a p t:gB}{r:Bd×Bool}(h:sW (uW a p t jQ) r):r.2=(uW a p t jQ).isSome:=by
 cases hm:uW a p t jQ with
 |none=>rw[hm]at h;exact h
 |some b=>rw[hm]at h;exact h.1
def isR(s:Sys)(t:gB)(i:Nat):Bool:=decide (0<=B5 s (iS s.1 t i))
def Ft(s:Sys)(t:gB):gB:=((List.range t.length).filter (isR s t)).map (fun i:Nat=>(i:Int))
theorem OG{s:Sys}{t:gB}{x:Int}(h:x∈Ft s t):∃i:Nat,x=i/\i<t.length/\0<=B5 s (iS s.1 t i):=by
 obtain⟨i,hi,rfl⟩:=bq.1 h;obtain⟨h1,h2⟩:=dx.1 hi;exact⟨i,rfl,b_.1 h1,eX h2⟩
theorem G2{s:Sys}{t:gB}:Ft s t=[]<->∀i,i<t.length->B5 s (iS s.1 t i)= -1:=by
 constructor
 ·intro h i hi;have h1:=(Lm (p:=fun r:gB×gB=>(uW s.1 r.1 (iS s.1 t i) jQ).isSome) (xs:=s.2)).1;by_cases h0:0<=B5 s (iS s.1 t i)
  ·have:(i:Int)∈Ft s t:=bq.2 ⟨i,dx.2 ⟨b_.2 hi,cK h0⟩,rfl⟩;rw[h]at this;cases this
  ·have h1': -1<=B5 s (iS s.1 t i):=h1;omega
 ·intro h;refine List.eq_nil_iff_forall_not_mem.2 fun x hx=>?_
  obtain⟨i,rfl,hi,h0⟩:=OG hx;rw[h i hi]at h0;omega
theorem xV{l:List gB}(hl:l.length<1099511627776)(hs:∀x∈l,Small x)(t:gB):nD l t=some (nP (fun x=>x==t) l):=by
 unfold nD;refine tU (fun i x hi hx hg=>?_) (by simp[nL]);simp only[nL,show(i:Int)<l.length by omega,aQ,aC,show(0:Int)<=i by omega,bE,au,hg,lz (n:=(i:Int)+1) h_ h_,aM,o_ (hs x hx),aa];cases x==t<;>rfl
theorem Em{α:Type}{p:α->Bool}{xs:List α}:decide (0<=nP p xs)=xs.any p:=by
 cases h:xs.any p with
 |true=>
  obtain⟨x,hx,hp⟩:=dj.1 h;exact cK (za hx hp)
 |false=>
  rw[yo (fun x hx=>by have:=fY.1 h x hx;simpa using this)];rfl
def MB(s:Sys)(t:gB)(i j:Nat):Bool:=(uW s.1 (s.2.getD j default).1 (iS s.1 t i) jQ).isSome
theorem DO{s:Sys}{t u:gB}{i j:Nat}(h:oq s t i j=some u):MB s t i j=true:=by
 unfold oq DP at h;unfold MB;obtain⟨b,hb,_⟩:=aq.1 h;rw[hb];rfl
theorem Cf{s:Sys}{t:gB}{i rule:Nat}(hs:jR s=true)(ht:iK s.1 t=true)(hi:i<t.length)(hr:rule<s.2.length):sM s t i rule=some (MB s t i rule):=by
 obtain⟨ha,_,hrs⟩:=jO.1 hs;obtain⟨_,h1,h2,hw⟩:=ij.1 ht;obtain⟨p,u,q,rfl,rfl,hu⟩:=hw.place hi;have hL:=(kr.1 (hrs _ (jB hr))).1;have hm:∀x∈p++(u++q), -24<=x:=fun x hx=>(hw.all x hx).1
 have hul:u.length<=60:=by simp at h2;omega
 obtain⟨_,hL1,hL2,hL3⟩:=ij.1 hL;unfold sM MB rO;rw[ah h_,pQ ha (by show List.length _<_;omega) hm bT hu,aa,au,xN hu];obtain⟨r,e⟩:=(um ha hL3 hu hL2 hul).2 trivial;rw[e,aa,aa,AO ((um ha hL3 hu hL2 hul).1 r e)]
theorem ON{s:Sys}{t:gB}{i j:Nat}(hs:jR s=true)(ht:iK s.1 t=true)(hi:i<t.length)(hj:j<s.2.length)(hn:t.getD i default<0):MB s t i j=false:=by
 obtain⟨ha,_,hrs⟩:=jO.1 hs;obtain⟨_,h1,h2,hw⟩:=ij.1 ht;obtain⟨p,u,q,rfl,rfl,hu⟩:=hw.place hi;obtain⟨hL,_,hh,_⟩:=kr.1 (hrs _ (jB hj));obtain⟨_,hL1,hL2,hL3⟩:=ij.1 hL;unfold MB;rw[xN hu];obtain⟨x,r,rfl,_,_⟩:=hu.pos;have hx:x<0:=by
  have e:(p++(x::r++q)).getD p.length default=x:=by simp[List.getD_eq_getElem?_getD]
  rwa [e]at hn
 generalize(s.2.getD j default).1=l at *;obtain⟨y,k,rfl,_,_⟩:=hL3.pos;have hy:¬y<0:=by simpa using hh
 rw[Ct hy,aj h_];rfl
def tL(s:Sys)(t:gB)(js:List Nat)(i:Nat):List P7:=js.filterMap fun j=>(oq s t i j).map fun u=>((i:Int),(j:Int),u)
def Ak(s:Sys)(t:gB):List P7:=(List.range t.length).flatMap (tL s t (List.range s.2.length))
def V1(s:Sys)(t:gB)(js:List Nat)(i:Nat):Bool:=js.any fun j=>MB s t i j&&(oq s t i j).isNone
def XG(s:Sys)(t:gB):Bool:=(List.range t.length).any (V1 s t (List.range s.2.length))
def Y4(s:Sys)(t:gB)(js:List Nat)(i:Nat):Nat:=(js.filter (MB s t i)).length
theorem Vu{s:Sys}{t:gB}{i:Nat}:∀js:List Nat,(tL s t js i).length<=Y4 s t js i/\(V1 s t js i=true<->(tL s t js i).length<Y4 s t js i)
 |[]=>by simp[tL,Y4,V1]
 |j::js=>by
  obtain⟨h1,h2⟩:=Vu (s:=s) (t:=t) (i:=i) js;unfold tL Y4 V1 at *;rw[List.filterMap_cons,di,e_];cases hq:oq s t i j with
  |some u=>
   have:=DO hq;simp only[aM,this,aC,aJ,Option.isNone_some,Bool.and_false,Bool.false_or];exact⟨h_,h2.trans h_⟩
  |none=>
   cases hr:MB s t i j with
   |true=>simp;omega
   |false=>simp only[eH,ak,aB,Bool.false_and,Bool.false_or];exact⟨h1,h2⟩
theorem EN{s:Sys}{t:gB}{js:List Nat}{i:Nat}:(tL s t js i).length<=js.length:=List.length_filterMap_le _ _
theorem CD{s:Sys}{t:gB}(hs:jR s=true)(ht:iK s.1 t=true):∀{n:Nat},n<=t.length->((List.range n).flatMap (tL s t (List.range s.2.length))).length<=n*12
 |0,_=>by simp
 |n+1,h=>by
  have:=CD hs ht (n:=n) h_;have h2:=EN (s:=s) (t:=t) (js:=List.range s.2.length) (i:=n);have h3:=(jO.1 hs).2.1;rw[gu,List.flatMap_append,ai];simp only[ej]at h2;simp only[cU,List.flatMap_nil,bh];omega
theorem Jd{s:Sys}{t:gB}{i n:Nat}:tL s t (List.range (n+1)) i=tL s t (List.range n) i++(match oq s t i n with|some u=>[((i:Int),(n:Int),u)]|none=>[]):=by
 unfold tL;rw[gu,List.filterMap_append];congr 1;cases h:oq s t i n<;>simp[h]
theorem Au{s:Sys}{t:gB}(hs:jR s=true)(ht:iK s.1 t=true):qw s t=some (Ak s t):=by
 obtain⟨_,hn,_⟩:=jO.1 hs;obtain⟨_,h1,h60,_⟩:=ij.1 ht;unfold qw;have A:=tc (n:=t.length) (fun i=>((List.range i).flatMap (tL s t (List.range s.2.length)),(i:Int))) (c:=Ak s t) (f:=od s t) (fun i hi=>by
  have hlen:=CD hs ht (n:=i) h_;generalize hO:(List.range i).flatMap (tL s t (List.range s.2.length))=o at hlen;have B:=tc (n:=s.2.length) (fun j=>(o++tL s t (List.range j) i,(j:Int))) (c:=.inl (o++tL s t (List.range s.2.length) i,((i:Int)+1))) (f:=oe s t (i:Int)) (fun j hj=>by
   have hr:=EN (s:=s) (t:=t) (js:=List.range j) (i:=i);rw[ej]at hr;unfold oe;simp only;rw[ah (by simpa using hj),wD hs ht hi hj,aa,lz h_ h_,Jd];cases hq:oq s t i j with
   |none=>simp[pI]
   |some u=>
    simp only[pI,aC];rw[ah (by simp only[ai];omega),aH];rfl) (by
   unfold oe;simp only;rw[aj (by simp),lz h_ h_];rfl)
  simp only[List.range_zero]at B;have e0:tL s t [] i=[]:=rfl;rw[e0,bh]at B;unfold od;simp only;rw[ah (by simpa using hi),show((0:Nat):Int)=0 from rfl]at *;rw[B,gu,List.flatMap_append,hO];simp) (by
  unfold od;simp only;rw[aj (by simp)];rfl)
 simpa using A
def Wm(s:Sys)(t:gB)(i j:Nat):KO:=(((i:Int),(j:Int),(pI (oq s t i j)).1),(pI (oq s t i j)).2)
theorem NI{s:Sys}{t u:gB}{i j:Nat}(h:oq s t i j=some u):Wm s t i j=(((i:Int),(j:Int),u),true):=by unfold Wm;rw[h];rfl
theorem NH{s:Sys}{t:gB}{i j:Nat}(h:oq s t i j=none):(Wm s t i j).2=false:=by unfold Wm;rw[h];rfl
def SN(s:Sys)(t:gB)(js:List Nat)(i:Nat):List KO:=(js.filter (MB s t i)).map (Wm s t i)
theorem DG{s:Sys}{t:gB}{i:Nat}(hs:jR s=true)(ht:iK s.1 t=true)(hi:i<t.length):∀k,k<=s.2.length->zi s t i k=some (SN s t (List.range' (s.2.length-k) k) i)
 |0,_=>rfl
 |k+1,hk=>by
  have ih:=DG hs ht hi k h_;have e:List.range' (s.2.length-(k+1)) (k+1)=(s.2.length-(k+1))::List.range' (s.2.length-k) k:=by rw[dV];congr 2;omega
  unfold zi;rw[e];have hr:s.2.length-(k+1)<s.2.length:=by omega
  by_cases hn:t.getD i default<0
  ·rw[ah (by simpa using hn),ih];unfold SN;rw[di,ON hs ht hi hr hn];rfl
  ·rw[aj (by simpa using hn),Cf hs ht hi hr,aa];unfold SN;rw[di];cases hq:MB s t i (s.2.length-(k+1))with
   |false=>simp only[ak,aB];exact ih
   |true=>
    simp only[aC];rw[yb hs ht hi hr,aa,ih];rfl
theorem B4{s:Sys}{t:gB}(hs:jR s=true)(ht:iK s.1 t=true):∀k,k<=t.length->A1 s t k=some ((List.range' (t.length-k) k).flatMap (SN s t (List.range s.2.length)))
 |0,_=>rfl
 |k+1,hk=>by
  have ih:=B4 hs ht k h_;have e:List.range' (t.length-(k+1)) (k+1)=(t.length-(k+1))::List.range' (t.length-k) k:=by rw[dV];congr 2;omega
  unfold A1;rw[e,DG hs ht h_ _ (aA _),aa,ih,cQ,<-dU];rfl
def Li(s:Sys)(t:gB):List KO:=(List.range t.length).flatMap (SN s t (List.range s.2.length))
theorem D6{s:Sys}{t:gB}(hs:jR s=true)(ht:iK s.1 t=true):zS s t=some (Li s t):=by
 unfold zS Li;rw[B4 hs ht _ (aA _),cQ,<-dU]
theorem NJ{s:Sys}{t:gB}{i:Nat}:∀js:List Nat,((SN s t js i).filter (·.2)).map (·.1)=tL s t js i/\(SN s t js i).any (fun x=>!x.2)=V1 s t js i
 |[]=>⟨rfl,rfl⟩
 |j::js=>by
  obtain⟨h1,h2⟩:=NJ (s:=s) (t:=t) (i:=i) js;unfold SN tL V1 at *;rw[di,List.filterMap_cons,e_];cases hq:oq s t i j with
  |some u=>simp only[DO hq,aC,aO,di,e_,NI hq,h1,h2,aM,Option.isNone_some,Bool.and_false,Bool.not_true,Bool.false_or,bE]
  |none=>cases hr:MB s t i j<;>simp[NH hq,h1,h2]
theorem Ir(s:Sys)(t:gB):((Li s t).filter (·.2)).map (·.1)=Ak s t/\(Li s t).any (fun x=>!x.2)=XG s t:=by
 unfold Li Ak XG;generalize List.range t.length=is;induction is with
 |nil=>exact⟨rfl,rfl⟩
 |cons i is ih=>
  obtain⟨h1,h2⟩:=NJ (s:=s) (t:=t) (i:=i) (List.range s.2.length);simp only[cU,fT,aR,List.any_append,e_,h1,h2,ih.1,ih.2,bE]
theorem L1{α:Type}[Inhabited α]{xs:List α}{i:Nat}(h:i<xs.length):xs.take (i+1)=xs.take i++[xs.getD i default]:=by rw[bZ h,iI h]
theorem zm{s:Sys}{t:gB}(hs:jR s=true)(ht:iK s.1 t=true):tN s t=some (Ak s t,XG s t):=by
 unfold tN;rw[show vG s t=some ()from rfl,aa,D6 hs ht,aa];have hb:∀j,(((Li s t).take j).filter (·.2)).length<=720:=fun j=>by
  have h1:(((Li s t).take j).filter (·.2)).length<=((Li s t).filter (·.2)).length:=((List.take_sublist _ _).filter _).length_le;have h2:=bS List.length (Ir s t).1;rw[aT]at h2;have h3:=CD hs ht (n:=t.length) (aA _);have h4:=(ij.1 ht).2.2.1;unfold Ak at h2;omega
 have A:=tc (n:=(Li s t).length) (fun j=>(j,(((Li s t).take j).filter (·.2)).map (·.1),((Li s t).take j).any (fun x=>!x.2))) (c:=(Ak s t,XG s t)) (f:=oC (Li s t)) (fun j hj=>by
  have h0:=hb j;unfold oC;simp only;rw[ah hj,L1 hj];generalize(Li s t).getD j default=x;cases hx:x.2 with
  |true=>
   simp only[aC];rw[ah (by rw[aT];omega),fT,aR,List.any_append];simp[hx]
  |false=>
   simp[hx]) (by
  unfold oC;simp only;rw[aj (fJ _),cn,(Ir s t).1,(Ir s t).2];rfl)
 simpa using A
theorem Sa{s:Sys}{t u:gB}{i j:Nat}(hs:jR s=true)(ht:iK s.1 t=true)(hi:i<t.length)(hj:j<s.2.length)(h:oq s t i j=some u):iK s.1 u=true:=by
 have hst:t_ s t (i:Int) (j:Int)=some u:=by
  unfold t_;rw[ah ⟨⟨hs,ht⟩,⟨h_,h_⟩,h_,h_⟩];exact h
 exact Ou (m:=((j:Int),(i:Int),false,u)) (Hv (x:=((i:Int),(j:Int),u)) hst (by simp))
theorem Jc{s:Sys}{t:gB}(hs:jR s=true)(ht:iK s.1 t=true):∀x∈Ak s t,iK s.1 x.2.2=true:=fun x hx=>by
 obtain⟨i,hi,hx⟩:=fj.1 hx;obtain⟨j,hj,hx⟩:=List.mem_filterMap.1 hx;obtain⟨u,hu,rfl⟩:=ay.1 hx;exact Sa hs ht (b_.1 hi) (b_.1 hj) hu
theorem EI{a t:gB}(h:iK a t=true):t.length<=60:=(ij.1 h).2.2.1
theorem KD{s:Sys}{t:gB}(hs:jR s=true)(ht:iK s.1 t=true):(Ak s t).length<=720:=by
 have h3:=CD hs ht (n:=t.length) (aA _);have h4:=EI ht;unfold Ak;omega
def yI(s:Sys)(t:gB)(steps:Int):Bool:=jR s&&(iK s.1 t&&decide (0<=steps/\steps<=20))
theorem Ah{s:Sys}{t:gB}{steps:Int}:yI s t steps=true<->jR s=true/\iK s.1 t=true/\0<=steps/\steps<=20:=by simp[yI]
theorem zU{s:Sys}{t:gB}(hs:jR s=true)(ht:iK s.1 t=true):pS s t=some (decide (Ft s t=[])):=by
 obtain⟨ha,hl,hr⟩:=jO.1 hs;obtain⟨_,t1,t2,t3⟩:=ij.1 ht;unfold pS;rw[vJ,aa,hs,ht];simp only[eA,aC];have key:jN True (oN s t) fun m=>(m=0<->Ft s t=[]):=by
  unfold oN;refine jN.loop (fun q:Int×Int=>∃i:Nat,q.2=i/\i<=t.length/\0<=q.1/\q.1<=12*i/\(q.1=0<->∀j,j<i->B5 s (iS s.1 t j)= -1)) (fun q:Int×Int=>t.length-q.2.toNat) ⟨0,rfl,h_,h_,by simp,by simp⟩ ?_;rintro⟨many,_⟩ ⟨i,rfl,h1,h2,h3,h4⟩;simp only at h2 h3 h4;simp only[ri];by_cases hi:i<t.length
  ·obtain⟨q,hd,hu,hul,_⟩:=MS ht hi;simp only[show(i:Int)<t.length by omega,aQ,aC];refine jN.loop (fun q:Int×Int=>∃j:Nat,q.2=j/\j<=s.2.length/\many<=q.1/\q.1<=many+j/\(q.1=many<->∀r∈s.2.take j,(uW s.1 r.1 (iS s.1 t i) jQ).isSome=false)) (fun q:Int×Int=>s.2.length-q.2.toNat) ⟨0,rfl,h_,by simp,by simp,by simp⟩ ?_;rintro⟨m2,_⟩ ⟨j,rfl,hj,h5,h6,h7⟩;simp only at h5 h6 h7;simp only[rj];by_cases hlt:j<s.2.length
   ·obtain⟨hL,_⟩:=kr.1 (hr _ (jB hlt));obtain⟨_,_,l2,l3⟩:=ij.1 hL;simp only[show(j:Int)<s.2.length by omega,aQ,aC,show(0:Int)<=j by omega,bE,au,lz (n:=(j:Int)+1) h_ h_,lz (n:=m2+1) h_ h_];rw[uy ha (show List.length _<_ by omega) hd hu,aa];have ht1:s.2.take (j+1)=s.2.take j++[s.2[j]]:=by rw[dP,az hlt];rfl
    refine jN.bind (vI ha l3 hu l2 hul) fun r1 hr1=>?_
    have e3:=AO hr1;rw[iI hlt]at e3;refine jN.ite (fun hc=>.some ⟨⟨j+1,by simp,hlt,by simp only;omega,by simp only;omega,?_⟩,by simp;omega⟩) fun hc=>.some ⟨⟨j+1,by simp,hlt,h5,by simp only;omega,?_⟩,by simp;omega⟩
    ·simp only;rw[hc]at e3;constructor
     ·intro h;omega
     ·intro h;have:=h (s.2[j]) (by rw[ht1];exact bp _ (aK.2 rfl));rw[<-e3]at this;cases this
    ·simp only;rw[hc]at e3;rw[h7,ht1];constructor
     ·intro h r hm;rcases aF.1 hm with hm|hm
      ·exact h r hm
      ·rw[aK.1 hm];exact e3.symm
     ·intro h r hm;exact h r (aZ _ hm)
   ·obtain rfl:j=s.2.length:=by omega
    rw[cn]at h7;simp only[Int.lt_irrefl,aU,ak,aB,aM,lz (n:=(i:Int)+1) h_ h_];refine .some ⟨⟨i+1,by simp,hi,by simp only;omega,by simp only;omega,?_⟩,by simp;omega⟩;simp only;constructor
    ·intro h k hk;by_cases hki:k<i
     ·exact h4.1 h_ k hki
     ·obtain rfl:k=i:=by omega
      exact yo (h7.1 h_)
    ·intro h;have e1:many=0:=h4.2 fun k hk=>h k h_
     have e2:m2=many:=h7.2 fun r hm=>by
      cases hp:(uW s.1 r.1 (iS s.1 t i) jQ).isSome with
      |false=>rfl
      |true=>
       have:=za (p:=fun r:gB×gB=>(uW s.1 r.1 (iS s.1 t i) jQ).isSome) hm hp;have h0:=h i h_;unfold B5 at h0;rw[h0]at this;exact absurd this (by decide)
     omega
  ·obtain rfl:i=t.length:=by omega
   simp only[Int.lt_irrefl,aU,ak,aB,aM];refine .some ?_;simp only[yc];rw[h4,G2]
 obtain⟨m,e1,e2⟩:=key.get;rw[e1,aa];congr 1;by_cases h:Ft s t=[]
 ·rw[cK h,e2.2 h];rfl
 ·rw[cL h];exact bW.2 fun e=>h (e2.1 e)
abbrev RT:=gB×Int
def zz(d:Int):LL->List RT->List RT×Bool
 |[],R=>(R,true)
 |u::us,R=>if u∈R.map (·.1)then zz d us R else if R.length=60 then(R,false)else zz d us (R++[(u,d+1)])
def BM(s:Sys)(steps:Int):Nat->Nat->List RT->List RT×Bool
 |0,_,R=>(R,true)
 |f+1,k,R=>if k<R.length then
  if(R.getD k default).2=steps then BM s steps f (k+1) R
  else if(zz (R.getD k default).2 ((Ak s (R.getD k default).1).map (·.2.2)) R).2=true then BM s steps f (k+1) (zz (R.getD k default).2 ((Ak s (R.getD k default).1).map (·.2.2)) R).1
   else zz (R.getD k default).2 ((Ak s (R.getD k default).1).map (·.2.2)) R
  else(R,true)
structure RI(s:Sys)(steps:Int)(R:List RT):Prop where
 len:R.length<=60
 el:∀x∈R,iK s.1 x.1=true/\0<=x.2/\x.2<=steps
theorem Fu{s:Sys}{steps d:Int}(hd:0<=d/\d<steps):∀{us:LL}{R:List RT},(∀u∈us,iK s.1 u=true)->RI s steps R->RI s steps (zz d us R).1
 |[],R,_,h=>h
 |u::us,R,hu,h=>by
  unfold zz;split
  ·exact Fu hd (fun v hv=>hu v (aP _ hv)) h
  ·split
   ·exact h
   ·rename_i hn;refine Fu hd (fun v hv=>hu v (aP _ hv)) ⟨?_,fun x hx=>?_⟩
    ·have:=h.len;simp;omega
    ·rcases aF.1 hx with hx|hx
     ·exact h.el x hx
     ·rw[aK.1 hx];exact⟨hu u aS,by simp;omega,by simp;omega⟩
theorem CB{d:Int}:∀{us:LL}{R:List RT},R.length<=(zz d us R).1.length
 |[],R=>aA _
 |u::us,R=>by
  unfold zz;split
  ·exact CB
  ·split
   ·exact aA _
   ·have:=CB (d:=d) (us:=us) (R:=R++[(u,d+1)]);rw[ai]at this;simp at this;omega
theorem FC{s:Sys}{t:gB}(hs:jR s=true)(ht:iK s.1 t=true):∀u∈(Ak s t).map (·.2.2),iK s.1 u=true:=fun u hu=>by
 obtain⟨x,hx,rfl⟩:=bq.1 hu;exact Jc hs ht x hx
abbrev I6:=gB×Int×Int×Int×gB×Int
def aI(all:List I6):List RT:=all.map fun r=>(r.1,r.2.2.2.2.2)
theorem tR(all:List I6):(aI all).length=all.length:=by simp[aI]
theorem Ur{all:List I6}{k:Nat}(hk:k<all.length):(aI all).getD k default=((all.getD k default).1,(all.getD k default).2.2.2.2.2):=by rw[iI (by rw[tR];exact hk),iI hk];simp[aI]
theorem Cd{all:List I6}{t:gB}(hl:all.length<=60)(hs:∀r∈all,Small r.1):xg all t=some (nP (fun r:I6=>r.1==t) all):=by
 unfold xg
 suffices h:j_ all t=some (nP (fun r:I6=>r.1==t) all) by rw[h];rfl
 unfold j_;refine tU (fun i x hi hx hg=>?_) (by simp[jP]);simp only[jP,show(i:Int)<all.length by omega,aQ,aC,show(0:Int)<=i by omega,bE,au,hg,lz (n:=(i:Int)+1) h_ h_,aM,ya,mF (hs x hx),aa];cases x.1==t<;>rfl
theorem Us{all:List I6}{t:gB}:(all.any fun r:I6=>r.1==t)=decide (t∈(aI all).map (·.1)):=by
 rw[fC,dj,decide_eq_true_iff];constructor
 ·rintro⟨x,hx,he⟩;exact bq.2 ⟨(x.1,x.2.2.2.2.2),bq.2 ⟨x,hx,rfl⟩,bw.1 he⟩
 ·intro h;obtain⟨y,hy,he⟩:=bq.1 h;obtain⟨x,hx,rfl⟩:=bq.1 hy;exact⟨x,hx,bw.2 he⟩
theorem Dl{s:Sys}{steps d:Int}(h20:steps<=20)(hd:0<=d/\d<steps){L:List P7}(hL:L.length<=720)(hT:∀x∈L,iK s.1 x.2.2=true){b:Bool}{k:Nat}:∀(r:List P7){i:Nat}{all:List I6},
 L.drop i=r->i<=L.length->k<all.length->(all.getD k default).2.2.2.2.2=d->RI s steps (aI all)->
 ∃all',aI all'=(zz d (r.map (·.2.2)) (aI all)).1/\iB (pO (k:Int) (L,b)) (all,(i:Int))=some (if(zz d (r.map (·.2.2)) (aI all)).2=true then .inl (all',(k:Int)+1)else .inr (all',false))
 |[],i,all,he,hi,hk,hq,h=>by
  have hn:L.length<=i:=by simpa using he
  have hl:=h.len;rw[tR]at hl;refine⟨all,rfl,iL ?_⟩;simp only[pO,show ¬(i:Int)<L.length by omega,aU,ak,aB,aM,cT,zz,aC,lz (n:=(k:Int)+1) h_ h_]
 |x::r,i,all,he,hi,hk,hq,h=>by
  obtain⟨h1,h2,h3⟩:=drop_cons he;have hx:iK s.1 x.2.2=true:=by rw[<-h2];exact hT _ (jB h1)
  have hl:=h.len;rw[tR]at hl;have FO:∀r∈all,Small r.1:=fun r hr=>by
   have:=EI (h.el (r.1,r.2.2.2.2.2) (bq.2 ⟨r,hr,rfl⟩)).1;show r.1.length<_;simp only at this;omega
  have hfd:=Cd (t:=x.2.2) hl FO;have hany:decide (0<=nP (fun r:I6=>r.1==x.2.2) all)=decide (x.2.2∈(aI all).map (·.1)):=by rw[Em,Us]
  have base:pO (k:Int) (L,b) (all,(i:Int))=some (if x.2.2∈(aI all).map (·.1)then .inl (all,(i:Int)+1)else if all.length=60 then .inr (.inr (all,false))else .inl (all++[(x.2.2,(k:Int),x.1,x.2.1,x.2.2,d+1)],(i:Int)+1)):=by
   simp only[pO,show(i:Int)<L.length by omega,aQ,aC,show(0:Int)<=i by omega,bE,au,h2,hfd,aa,hany,lz (n:=(i:Int)+1) h_ h_,show(0:Int)<=k by omega,show(k:Int)<all.length by omega,hq,lz (n:=d+1) h_ h_,show(all.length+1)*80<=140737488355328 by omega];by_cases hm:x.2.2∈(aI all).map (·.1)
   ·simp[hm]
   ·simp only[hm,aU,ak,aB];by_cases h60:all.length=60
    ·rw[ah (by simpa using(by omega:(all.length:Int)=60)),ah h60];rfl
    ·rw[aj (by simpa using(by omega:(all.length:Int)≠60)),aj h60]
  rw[aO];unfold zz;by_cases hm:x.2.2∈(aI all).map (·.1)
  ·rw[ah hm]at base⊢;obtain⟨all',e1,e2⟩:=Dl (k:=k) h20 hd hL hT r (i:=i+1) h3 h_ hk hq h;exact⟨all',e1,(iW base).trans e2⟩
  ·rw[aj hm]at base⊢;by_cases h60:all.length=60
   ·rw[ah h60]at base;rw[ah (by rw[tR];exact h60)];exact⟨all,rfl,iL base⟩
   ·rw[aj h60]at base;rw[aj (by rw[tR];exact h60)];have ea:aI (all++[(x.2.2,(k:Int),x.1,x.2.1,x.2.2,d+1)])=aI all++[(x.2.2,d+1)]:=by simp[aI]
    have hn:RI s steps (aI all++[(x.2.2,d+1)]):=⟨by rw[ai,tR];simp;omega,fun y hy=>by
     rcases aF.1 hy with hy|hy
     ·exact h.el y hy
     ·rw[aK.1 hy];exact⟨hx,by simp;omega,by simp;omega⟩⟩
    obtain⟨all',e1,e2⟩:=Dl (k:=k) h20 hd hL hT r (i:=i+1) (all:=all++[(x.2.2,(k:Int),x.1,x.2.1,x.2.2,d+1)]) h3 h_ (by simp;omega)
     (by rw[List.getD_eq_getElem?_getD,aW hk,<-List.getD_eq_getElem?_getD];exact hq) (by rw[ea];exact hn)
    rw[ea]at e1 e2;exact⟨all',e1,(iW base).trans e2⟩
theorem GD{s:Sys}{steps:Int}(hs:jR s=true)(h20:0<=steps/\steps<=20):∀(f:Nat){k:Nat}{all:List I6},61<=k+f->k<=all.length->RI s steps (aI all)->
 ∃all',aI all'=(BM s steps f k (aI all)).1/\iB (pN s steps) (all,(k:Int))=some (all',(BM s steps f k (aI all)).2)
 |0,k,all,hf,hk,h=>by
  have:=h.len;rw[tR]at this;omega
 |f+1,k,all,hf,hk,h=>by
  have hl:=h.len;rw[tR]at hl;unfold BM;by_cases hlt:k<all.length
  ·have ge:=Ur hlt;have hel:=h.el _ (jB (by rw[tR];exact hlt:k<(aI all).length));rw[ah (by rw[tR];exact hlt)];rw[ge]at hel⊢;simp only at hel⊢;by_cases hst:(all.getD k default).2.2.2.2.2=steps
   ·rw[ah hst];obtain⟨all',e1,e2⟩:=GD hs h20 f (k:=k+1) h_ h_ h;refine⟨all',e1,(iW ?_).trans e2⟩;simp only[pN,show(k:Int)<all.length by omega,aQ,aC,show(0:Int)<=k by omega,bE,au,hst,cA,lz (n:=(k:Int)+1) h_ h_];rfl
   ·rw[aj hst];obtain⟨all',e1,e2⟩:=Dl (s:=s) (b:=XG s (all.getD k default).1) h20.2 (d:=(all.getD k default).2.2.2.2.2) ⟨hel.2.1,h_⟩ (KD hs hel.1) (Jc hs hel.1) (k:=k) (Ak s (all.getD k default).1) (i:=0) rfl h_ hlt rfl h;have hR:=Fu (s:=s) (steps:=steps) (d:=(all.getD k default).2.2.2.2.2) ⟨hel.2.1,h_⟩ (FC hs hel.1) h;have base:pN s steps (all,(k:Int))=some (if(zz (all.getD k default).2.2.2.2.2 ((Ak s (all.getD k default).1).map (·.2.2)) (aI all)).2=true then .inl (all',(k:Int)+1)else .inr (all',false)):=by
     have hne:((all.getD k default).2.2.2.2.2==steps)=false:=by simpa using hst
     simp only[pN,show(k:Int)<all.length by omega,aQ,aC,show(0:Int)<=k by omega,bE,au,hne,ak,aB,zm hs hel.1,aa];exact e2
    cases hb:(zz (all.getD k default).2.2.2.2.2 ((Ak s (all.getD k default).1).map (·.2.2)) (aI all)).2 with
    |true=>
     rw[hb,ah rfl]at base;rw[ah rfl];have hk':k+1<=all'.length:=by
      have a1:=bS List.length e1;rw[tR]at a1;have a2:=CB (d:=(all.getD k default).2.2.2.2.2) (us:=(Ak s (all.getD k default).1).map (·.2.2)) (R:=aI all);rw[tR]at a2;omega
     obtain⟨a2,e3,e4⟩:=GD hs h20 f (k:=k+1) (all:=all') h_ hk' (by rw[e1];exact hR);rw[e1]at e3 e4;exact⟨a2,e3,(iW base).trans e4⟩
    |false=>
     rw[hb,aj (by simp)]at base;rw[aj (by simp)];exact⟨all',e1,by rw[hb];exact iL base⟩
  ·rw[aj (by rw[tR];exact hlt)];refine⟨all,rfl,iL ?_⟩;simp only[pN,show ¬(k:Int)<all.length by omega,aU,ak,aB,aM]
theorem P9{l:LL}{t:gB}:(l.any fun x=>x==t)=decide (t∈l):=by
 rw[fC,dj,decide_eq_true_iff];exact⟨fun⟨x,hx,he⟩=>by rw[<-bw.1 he];exact hx,fun h=>⟨t,h,bw.2 rfl⟩⟩
theorem Dv{α β:Type}[Inhabited α][Inhabited β]{xs:List α}{g:α->β}{i:Nat}(h:i<xs.length):(xs.map g).getD i default=g (xs.getD i default):=by rw[iI (by simpa using h),iI h,List.getElem_map]
theorem DN{s:Sys}{steps d:Int}(h20:steps<=20)(hd:0<=d/\d<steps){L:List P7}(hL:L.length<=720)(hT:∀x∈L,iK s.1 x.2.2=true){i:Nat}:∀(r:List P7){k:Nat}{R:List RT}{f5:gB}{f6:List P7},
 L.drop k=r->k<=L.length->i<R.length->(R.getD i default).2=d->f5.length=R.length->f6.length=R.length->RI s steps R->
 ∃f5' f6',f5'.length=(zz d (r.map (·.2.2)) R).1.length/\f6'.length=(zz d (r.map (·.2.2)) R).1.length/\
  iB (nc (i:Int) L) ((k:Int),R.map (·.1),f5,f6,R.map (·.2))=some (if(zz d (r.map (·.2.2)) R).2=true then .inl ((i:Int)+1,(zz d (r.map (·.2.2)) R).1.map (·.1),f5',f6',(zz d (r.map (·.2.2)) R).1.map (·.2))else .inr ((zz d (r.map (·.2.2)) R).1.map (·.1),f5',f6',(zz d (r.map (·.2.2)) R).1.map (·.2),false))
 |[],k,R,f5,f6,he,hk,hi,hq,h5,h6,h=>by
  have hn:L.length<=k:=by simpa using he
  have hl:=h.len;refine⟨f5,f6,h5,h6,iL ?_⟩;simp only[nc,show ¬(k:Int)<L.length by omega,aU,ak,aB,aM,cT,zz,aC,lz (n:=(i:Int)+1) h_ h_]
 |x::r,k,R,f5,f6,he,hk,hi,hq,h5,h6,h=>by
  obtain⟨h1,h2,h3⟩:=drop_cons he;have hx:iK s.1 x.2.2=true:=by rw[<-h2];exact hT _ (jB h1)
  have hl:=h.len;have FO:∀t∈R.map (·.1),Small t:=fun t ht=>by
   obtain⟨y,hy,rfl⟩:=bq.1 ht;have:=EI (h.el y hy).1;show y.1.length<_;omega
  have hfd:=xV (l:=R.map (·.1)) (by simp;omega) FO x.2.2;have hany:decide (0<=nP (fun y=>y==x.2.2) (R.map (·.1)))=decide (x.2.2∈R.map (·.1)):=by rw[Em,P9]
  have hgd:(R.map (·.2)).getD i default=d:=by rw[Dv hi];exact hq
  have base:nc (i:Int) L ((k:Int),R.map (·.1),f5,f6,R.map (·.2))=some (if x.2.2∈R.map (·.1)then .inl ((k:Int)+1,R.map (·.1),f5,f6,R.map (·.2))else if R.length=60 then .inr (.inr (R.map (·.1),f5,f6,R.map (·.2),false))else .inl ((k:Int)+1,(R++[(x.2.2,d+1)]).map (·.1),f5++[(i:Int)],f6++[(x.1,x.2.1,x.2.2)],(R++[(x.2.2,d+1)]).map (·.2))):=by
   simp only[nc,show(k:Int)<L.length by omega,aQ,aC,show(0:Int)<=k by omega,bE,au,h2,hfd,aa,hany,lz (n:=(k:Int)+1) h_ h_,show(0:Int)<=i by omega,aT,show(i:Int)<R.length by omega,hgd,lz (n:=d+1) h_ h_,show(R.length+1)*24<=140737488355328 by omega,show(R.length+1)*8<=140737488355328 by omega,show(f5.length+1)*8<=140737488355328 by omega,show(f6.length+1)*40<=140737488355328 by omega];by_cases hm:x.2.2∈R.map (·.1)
   ·simp[hm]
   ·simp only[hm,aU,ak,aB];by_cases h60:R.length=60
    ·rw[ah (by simpa using(by omega:(R.length:Int)=60)),ah h60];rfl
    ·rw[aj (by simpa using(by omega:(R.length:Int)≠60)),aj h60];simp
  rw[aO];unfold zz;by_cases hm:x.2.2∈R.map (·.1)
  ·rw[ah hm]at base⊢;obtain⟨a5,a6,e1,e2,e3⟩:=DN (i:=i) h20 hd hL hT r (k:=k+1) h3 h_ hi hq h5 h6 h;exact⟨a5,a6,e1,e2,(iW base).trans e3⟩
  ·rw[aj hm]at base⊢;by_cases h60:R.length=60
   ·rw[ah h60]at base⊢;exact⟨f5,f6,h5,h6,iL base⟩
   ·rw[aj h60]at base⊢;have hn:RI s steps (R++[(x.2.2,d+1)]):=⟨by rw[ai];simp;omega,fun y hy=>by
     rcases aF.1 hy with hy|hy
     ·exact h.el y hy
     ·rw[aK.1 hy];exact⟨hx,by simp;omega,by simp;omega⟩⟩
    obtain⟨a5,a6,e1,e2,e3⟩:=DN (i:=i) h20 hd hL hT r (k:=k+1) (R:=R++[(x.2.2,d+1)]) (f5:=f5++[(i:Int)]) (f6:=f6++[(x.1,x.2.1,x.2.2)]) h3 h_ (by simp;omega)
     (by rw[List.getD_eq_getElem?_getD,aW hi,<-List.getD_eq_getElem?_getD];exact hq) (by simp;omega) (by simp;omega) hn
    exact⟨a5,a6,e1,e2,(iW base).trans e3⟩
theorem A7{s:Sys}{steps:Int}(hs:jR s=true)(h20:0<=steps/\steps<=20):∀(f:Nat){k:Nat}{R:List RT}{f5:gB}{f6:List P7},61<=k+f->k<=R.length->f5.length=R.length->f6.length=R.length->RI s steps R->
 ∃f5' f6',iB (lV s steps) ((k:Int),R.map (·.1),f5,f6,R.map (·.2))=some ((BM s steps f k R).1.map (·.1),f5',f6',(BM s steps f k R).1.map (·.2),(BM s steps f k R).2)/\RI s steps (BM s steps f k R).1
 |0,k,R,f5,f6,hf,hk,h5,h6,h=>by
  have:=h.len;omega
 |f+1,k,R,f5,f6,hf,hk,h5,h6,h=>by
  have hl:=h.len;unfold BM;by_cases hlt:k<R.length
  ·have hel:=h.el _ (jB hlt);have ge1:=Dv (g:=fun x:RT=>x.1) hlt;have ge2:=Dv (g:=fun x:RT=>x.2) hlt;rw[ah hlt];by_cases hst:(R.getD k default).2=steps
   ·rw[ah hst];obtain⟨a5,a6,e1,e2⟩:=A7 hs h20 f (k:=k+1) h_ h_ h5 h6 h;refine⟨a5,a6,(iW ?_).trans e1,e2⟩;simp only[lV,aT,show(k:Int)<R.length by omega,aQ,aC,show(0:Int)<=k by omega,bE,au,ge2,hst,cA,lz (n:=(k:Int)+1) h_ h_];rfl
   ·rw[aj hst];obtain⟨a5,a6,l5,l6,e2⟩:=DN (s:=s) h20.2 (d:=(R.getD k default).2) ⟨hel.2.1,h_⟩ (KD hs hel.1) (Jc hs hel.1) (i:=k) (Ak s (R.getD k default).1) (k:=0) rfl h_ hlt rfl h5 h6 h;have hR:=Fu (s:=s) (steps:=steps) (d:=(R.getD k default).2) ⟨hel.2.1,h_⟩ (FC hs hel.1) h;have hlen:=CB (d:=(R.getD k default).2) (us:=(Ak s (R.getD k default).1).map (·.2.2)) (R:=R);have base:lV s steps ((k:Int),R.map (·.1),f5,f6,R.map (·.2))=some (if(zz (R.getD k default).2 ((Ak s (R.getD k default).1).map (·.2.2)) R).2=true then .inl ((k:Int)+1,(zz (R.getD k default).2 ((Ak s (R.getD k default).1).map (·.2.2)) R).1.map (·.1),a5,a6,(zz (R.getD k default).2 ((Ak s (R.getD k default).1).map (·.2.2)) R).1.map (·.2))else .inr ((zz (R.getD k default).2 ((Ak s (R.getD k default).1).map (·.2.2)) R).1.map (·.1),a5,a6,(zz (R.getD k default).2 ((Ak s (R.getD k default).1).map (·.2.2)) R).1.map (·.2),false)):=by
     have hne:((R.getD k default).2==steps)=false:=by simpa using hst
     simp only[lV,aT,show(k:Int)<R.length by omega,aQ,aC,show(0:Int)<=k by omega,bE,au,ge1,ge2,hne,ak,aB,Au hs hel.1,aa];exact e2
    cases hb:(zz (R.getD k default).2 ((Ak s (R.getD k default).1).map (·.2.2)) R).2 with
    |true=>
     rw[hb,ah rfl]at base;rw[ah rfl];obtain⟨b5,b6,e3,e4⟩:=A7 hs h20 f (k:=k+1) (R:=(zz (R.getD k default).2 ((Ak s (R.getD k default).1).map (·.2.2)) R).1) (f5:=a5) (f6:=a6) h_ h_ l5 l6 hR;exact⟨b5,b6,(iW base).trans e3,e4⟩
    |false=>
     rw[hb,aj (by simp)]at base;rw[aj (by simp)];exact⟨a5,a6,by rw[hb];exact iL base,hR⟩
  ·rw[aj hlt];refine⟨f5,f6,iL ?_,h⟩;simp only[lV,aT,show ¬(k:Int)<R.length by omega,aU,ak,aB,aM]
def G6(s:Sys)(t:gB)(steps:Int):List RT×Bool:=BM s steps 61 0 [(t,0)]
theorem ri0{s:Sys}{t:gB}{steps:Int}(ht:iK s.1 t=true)(h:0<=steps):RI s steps [(t,0)]:=⟨by simp,fun x hx=>by
 rw[aK.1 hx];exact⟨ht,by simp,h⟩⟩
theorem Av(s:Sys)(t:gB)(steps:Int):qx s t steps=some (yI s t steps):=by
 unfold qx mq yI;rw[pn,aa];cases hs:jR s with
 |false=>simp
 |true=>
  simp only[aC,oG,aa,bP];cases iK s.1 t with
  |false=>simp
  |true=>simp[lE]
theorem OM{s:Sys}{t:gB}{steps:Int}(h:yI s t steps=true):RI s steps (G6 s t steps).1:=by
 obtain⟨h1,h2,h3⟩:=Ah.1 h;obtain⟨_,_,_,hR⟩:=A7 h1 h3 61 (k:=0) (R:=[(t,0)]) (f5:=[0]) (f6:=[(0,0,[])]) h_ h_ rfl rfl (ri0 (s:=s) h2 h3.1);exact hR
theorem Vq{s:Sys}{t:gB}{steps:Int}(h:yI s t steps=true):((G6 s t steps).1.map (·.1)).length<=60/\∀u∈(G6 s t steps).1.map (·.1),u.length<=60:=by
 have hR:=OM h;refine⟨by rw[aT];exact hR.len,fun u hu=>?_⟩;obtain⟨y,hy,rfl⟩:=bq.1 hu;exact EI (hR.el y hy).1
def T3(s:Sys)(t:gB):Bool:=decide (Ft s t=[])
theorem Ll{α:Type}{p:α->Bool}{L:List α}{i:Nat}(hi:i<L.length):(L.take (i+1)).filter p=(L.take i).filter p++(if p L[i]=true then [L[i]]else []):=by
 rw[bZ hi,fT];by_cases h:p L[i]=true<;>simp[h]
def V4(s:Sys)(t:gB)(steps:Int):LL:=if yI s t steps=true then((G6 s t steps).1.map (·.1)).filter (T3 s)else []
theorem zn(s:Sys)(t:gB)(steps:Int):kZ s t steps=some (V4 s t steps):=by
 unfold kZ V4;rw[Av,aa];cases hr:yI s t steps with
 |false=>simp
 |true=>
  obtain⟨h1,h2,h3⟩:=Ah.1 hr;have FO:=EI h2;obtain⟨a5,a6,e1,_⟩:=A7 h1 h3 61 (k:=0) (R:=[(t,0)]) (f5:=[-1]) (f6:=[(0,0,[])]) h_ h_ rfl rfl (ri0 (s:=s) h2 h3.1);have el:rG s t steps=some ((G6 s t steps).1.map (·.1),a5,a6,(G6 s t steps).1.map (·.2),(G6 s t steps).2):=by
   unfold rG;rw[m_ (l:=t) (by show t.length<_;omega),aa];exact e1
  obtain⟨q1,q2⟩:=Vq hr;have hR:=OM hr;rw[ah rfl,ah rfl,el,aa];refine tc (n:=((G6 s t steps).1.map (·.1)).length) (fun i:Nat=>((((G6 s t steps).1.map (·.1)).take i).filter (T3 s),(i:Int))) (fun i hi=>?_) ?_
  ·have hterm:iK s.1 ((G6 s t steps).1.map (·.1))[i]=true:=by
    obtain⟨y,hy,e⟩:=bq.1 (bB hi);rw[<-e];exact(hR.el y hy).1
   have hw:IntKind.i64.wrap ((i:Int)+1)=((i+1:Nat):Int):=by rw[lz h_ h_];rfl
   have hfl:((((G6 s t steps).1.map (·.1)).take i).filter (T3 s)).length<=60:=cp (List.length_filter_le _ _) (by rw[bY];simp only[aT]at *;omega);rw[Ll hi,oD,ah (by simp only[av];omega),ah (by simp only;omega),au];simp only;rw[iI hi,zU h1 hterm,aa,hw];by_cases c:T3 s ((G6 s t steps).1.map (·.1))[i]=true
   ·have c':decide (Ft s ((G6 s t steps).1.map (·.1))[i]=[])=true:=c;rw[ah c',ah h_,m_ (by have:=q2 _ (bB hi);show List.length _<_;omega),aa,ah h_,ah c]
   ·have c':¬decide (Ft s ((G6 s t steps).1.map (·.1))[i]=[])=true:=c;rw[aj c',aj c,bh]
  ·rw[oD,aj (by simp),cn];rfl
end Go.Proofs.YtjgbnaihpicpgaaGreat
