/- A part of the proof about FnAcNormal and about FnAcSteps (PX, CN, DA, DB, DC, DE, CO, EA, EB, EC, ED, EE). -/
import Derived.Test.YthdnkoejpdcnpaaGreatNaj
import Derived.Test.YthdnkoejpdcnpaaGreatNak
import Derived.Test.YthdnkoejpdcnpaaGreatNal
import Derived.Test.YthdnkoejpdcnpaaGreatNan
import Derived.Test.YthdnkoejpdcnpaaGreatNao
set_option linter.all false
namespace Go.Proofs.YthdnkoejpdcnpaaGreat
open Go kI Tm
theorem AD{a p t:fP}(ha:iJ a=true)(hp:Wf a 1 p)(ht:Wf a 1 t)(hpl:p.length<=60)(htl:t.length<=60):gG True (qD a p t) (xo (BZ a p t sN)):=by
 have hn:∀u∈sN,u.length<=60:=by intro u hu;simp[sN]at hu;subst hu;simp
 unfold qD;rw[show(List.replicate 24 []:Bd)=sN from rfl];refine gG.loop (fun s:Int×Int×Bd=>∃i c:Nat,s.1=(c:Int)/\s.2.1=(i:Int)/\T3 a p t sN s.2.2 i c) (fun s:Int×Int×Bd=>p.length-s.2.1.toNat)
  ⟨0,0,rfl,rfl,gB,gB,by simp[sN],hn,⟨1,by simpa using hp,by simpa using ht⟩,by simp⟩ ?_
 rintro⟨_,_,b⟩ ⟨i,c,rfl,rfl,h⟩;simp only at h;have hb:=h.hb;simp only[tP];by_cases hi:i<p.length
 ·have hc:=h.VT hi;simp only[show(i:Int)<p.length by omega,show ¬(t.length:Int)<=c by omega,aW,aZ,aH,show(0:Int)<=i by omega,show(0:Int)<=c by omega,show(c:Int)<t.length by omega,bT,
   au,aG,aq,gO hi,gO hc,jE (n:=(i:Int)+1) gB gB,jE (n:=(c:Int)+1) gB gB]
  by_cases hn:p[i]<0
  ·obtain⟨u,r,e,hu,hl,ho,hm,hk⟩:=h.var hi hn;have hul:=hu.len;have hx: -24<=p[i]:=ho.1;have hlt:(-1-p[i]).toNat<b.length:=by omega
   simp only[show ¬0<=p[i] by omega,aZ,au,aG,mz ha (show Small t by show t.length<_;omega) e hu,aa,
    jE (n:= -1-p[i]) gB gB,show 0<= -1-p[i] by omega,show -1-p[i]<24 by omega,bT,aH,hb,show((-1:Int)-p[i]<((24:Nat):Int)) by omega,
    jE (n:=(c:Int)+u.length) gB gB]
   have eg:b.getD (-1-p[i]).toNat default=gZ b p[i]:=rfl;rw[eg];by_cases h0:gZ b p[i]=[]
   ·rw[ah h0]at hm;simp only[h0,bB,fK,Int.lt_irrefl,aZ,au,aG];exact .some ⟨⟨i+1,c+u.length,by simp,by simp,gB,gB,by simpa using hb,Dc h.Kc gB,hk,by rw[hm];rfl⟩,by simp;omega⟩
   ·rw[az h0]at hm;have hp0:=bM.2 h0;simp only[show(0:Int)<((gZ b p[i]).length:Int) by omega,aW,aH,lE (show Small (gZ b p[i]) by show List.length _<_;have:=C6 (n:=p[i]) h.Kc;omega),aa];by_cases h1:gZ b p[i]=u
    ·rw[ah h1]at hm;simp only[h1,cU,aH];have hset:b.set (-1-p[i]).toNat u=b:=by
      have:b[(-1-p[i]).toNat]=u:=by rw[<-h1];exact(gO hlt).symm
      rw[<-this];exact List.set_getElem_self hlt
     rw[hset];exact .some ⟨⟨i+1,c+u.length,by simp,by simp,gB,gB,hb,h.Kc,hk,hm.symm⟩,by simp;omega⟩
    ·rw[az h1]at hm;have:¬(gZ b p[i]==u)=true:=by simpa using h1
     simp only[this,aG,aT];refine .some ?_;simp only[tC,xo,hm]
  ·obtain⟨hc',ho,hm,hk⟩:=h.sym hi hn;simp only[show 0<=p[i] by omega,aW,aH];by_cases e:t[c]=p[i]
   ·rw[ah e]at hm;simp only[e,dW,au,aG];exact .some ⟨⟨i+1,c+1,by simp,by simp,gB,gB,hb,h.Kc,hk e,hm.symm⟩,by simp;omega⟩
   ·rw[az e]at hm;have:(p[i] != t[c])=true:=by simpa using fun h=>e h.symm
    simp only[this,aH,aT];refine .some ?_;simp only[tC,xo,hm]
 ·have hm:=h.m;rw[bt gB,FF]at hm;simp only[show ¬(i:Int)<p.length by omega,aZ,au,aG,hb,aH];refine gG.inr ?_;refine gG.bind (wI gB h.Kc) fun o ho=>.some ?_
  simp only[tC,xo,<-hm];exact⟨trivial,ho.1,ho.2⟩
theorem inst_rm{a ac p t:fP}(hac:tA a ac)(hp:Wf a 1 p){σ:Int->fP}(hσ:∀x∈p,x<0->Wf a 1 (σ x))(he:Tm.sub σ p=t):∃g',RM a ac p (form a ac t) g0 g'/\∀x∈p,x<0->gZ g' x=form a ac (σ x):=by
 let G:Bd:=(List.range 24).map fun i:Nat=>if(-1-(i:Int))∈p then form a ac (σ (-1-(i:Int)))else []
 have hG:∀x:Int,x<0->gZ G x=if x∈p then form a ac (σ x)else []:=fun x hx=>by
  by_cases h24: -24<=x
  ·unfold gZ;show((List.range 24).map fun i:Nat=>if(-1-(i:Int))∈p then form a ac (σ (-1-(i:Int)))else []).getD (-1-x).toNat []=_;rw[av,bq,dy gB];simp only[aT,Option.getD_some];rw[show(-1-(((-1-x).toNat:Nat):Int))=x by omega]
  ·have hn:x∉p:=fun hm=>h24 (hp.all x hm).1
   rw[az hn];unfold gZ;rw[av,bI (by show((List.range 24).map _).length<=_;simp;omega)];rfl
 refine⟨G,⟨⟨by show((List.range 24).map _).length=_;simp[g0],fun x _ h=>absurd (Dv x) h,fun x hx hn=>by rw[hG x hx,az hn,Dv],fun x hx h0=>by rw[hG x h0,ah hx];exact ri hac (hσ x hx h0)⟩,?_⟩,fun x hx h0=>by rw[hG x h0,ah hx]⟩;have e:Tm.sub (gZ G) p=Tm.sub (fun x=>form a ac (σ x)) p:=sub_congr fun x hx h0=>by rw[hG x h0,ah hx]
 rw[e,A1 hac p.length (ay _) hp hσ,he]
def Cu(c0:fP)(i:Int):Prop:=0<=i/\i<=c0.length
theorem Fb(x:Int):0<=zW .i64 x 255/\zW .i64 x 255<=255:=by
 have h:(BitVec.ofInt IntKind.i64.bits x &&& BitVec.ofInt IntKind.i64.bits 255).toNat<=255:=by
  rw[BitVec.toNat_and];exact bN Nat.and_le_right (by decide)
 unfold zW;rw[jE gB gB];omega
theorem AO{c0:fP}{i:Int}(hs:Small c0)(hi:Cu c0 i)(h:Int):gG True (mK c0 i h) fun r=>0<=r.1/\r.1<=255/\Cu c0 r.2.1:=by
 have hs:c0.length<1099511627776:=hs;obtain⟨h1,h2⟩:=hi;unfold mK;refine gG.ite (fun hc=>?_) fun hc=>.some ⟨(Fb _).1,(Fb _).2,h1,h2⟩
 simp only[ak]at hc;refine gG.need ⟨h1,hc⟩ (.some ⟨(Fb _).1,(Fb _).2,?_⟩);show Cu c0 (IntKind.i64.wrap (i+1));rw[jE (n:=i+1) gB gB];exact⟨gB,gB⟩
theorem KG{a n:Int}(ha:0<=a)(hn:0<n):0<=a.tmod n/\a.tmod n<n:=⟨Int.tmod_nonneg _ ha,Int.tmod_lt_of_pos _ hn⟩
theorem jG{c0:fP}{i:Int}(hs:Small c0)(hi:Cu c0 i)(n h:Int):gG True (gI n c0 i h) fun r=>0<=r.1/\(0<n->r.1<n)/\(n<=0->r.1=0)/\Cu c0 r.2.1:=by
 unfold gI;refine gG.ite (fun hc=>?_) fun hc=>?_
 ·simp only[ak]at hc;exact .some ⟨dB _,fun h=>by omega,fun _=>rfl,hi⟩
 ·simp only[bS]at hc;refine gG.ite (fun _=>?_) fun _=>?_
  ·refine gG.bind (AO hs hi h) fun r hr=>gG.need gB (.some ?_)
   obtain⟨h1,h2⟩:=KG hr.1 (show 0<n by omega);exact⟨h1,fun _=>h2,fun h=>by omega,hr.2.2⟩
  ·refine gG.bind (AO hs hi h) fun r1 h1=>gG.bind (AO hs h1.2.2 _) fun r2 h2=>gG.bind (AO hs h2.2.2 _) fun r3 h3=>gG.bind (AO hs h3.2.2 _) fun r4 h4=>gG.need gB (.some ?_)
   obtain⟨a1,b1,_⟩:=h1;obtain⟨a2,b2,_⟩:=h2;obtain⟨a3,b3,_⟩:=h3;obtain⟨a4,b4,hc4⟩:=h4;simp only;rw[jE (n:=r1.1*16777216) gB gB,jE (n:=r2.1*65536) gB gB,jE (n:=r3.1*256) gB gB,jE (n:=r1.1*16777216+r2.1*65536) gB gB,
    jE (n:=r1.1*16777216+r2.1*65536+r3.1*256) gB gB,jE (n:=r1.1*16777216+r2.1*65536+r3.1*256+r4.1) gB gB]
   obtain⟨e1,e2⟩:=KG (a:=r1.1*16777216+r2.1*65536+r3.1*256+r4.1) (n:=n) gB gB;exact⟨e1,fun _=>e2,fun h=>by omega,hc4⟩
theorem mh{c0:fP}{i:Int}(hs:Small c0)(hi:Cu c0 i)(n h:Int):gG True (gR n c0 i h) fun r=>Cu c0 r.2.1:=by
 unfold gR;exact gG.bind (jG hs hi n h) fun r hr=>.some hr.2.2.2
theorem Fv{c0:fP}{i:Int}(hs:Small c0)(hi:Cu c0 i){lo hi':Int}(h:Int)(h1: -100<=lo)(h2:lo<=hi')(h3:hi'<=100):gG True (mL lo hi' c0 i h) fun r=>lo<=r.1/\r.1<=hi'/\Cu c0 r.2.1:=by
 unfold mL;rw[jE (n:=hi'-lo) gB gB,jE (n:=hi'-lo+1) gB gB];refine gG.bind (jG hs hi _ h) fun r hr=>.some ?_
 have:=hr.2.1 gB;have:=hr.1;simp only;rw[jE (n:=lo+r.1) gB gB];exact⟨gB,gB,hr.2.2.2⟩
theorem On{code:fP}(hs:Small code):gG True (qV code) fun r=>r.1=code/\r.2.1=0:=by
 have hs:code.length<1099511627776:=hs;unfold qV;refine gG.loop (fun q:Int×Int=>∃i:Nat,q.2=i/\i<=code.length) (fun q:Int×Int=>code.length-q.2.toNat) ⟨0,rfl,gB⟩ ?_;rintro⟨g,_⟩ ⟨i,rfl,h1⟩;simp only[vn];by_cases hi:i<code.length
 ·simp only[show(i:Int)<code.length by omega,aW,aH,show(0:Int)<=i by omega,bT,jE (n:=(i:Int)+1) gB gB];exact .some ⟨⟨i+1,by simp,gB⟩,by simp;omega⟩
 ·simp only[show ¬(i:Int)<code.length by omega,aZ,au,aG,aT];exact .some ⟨rfl,rfl⟩
theorem OY{c0:fP}(hs:Small c0){f:Int×Int×Int×fP->Option (gy⊕fS)}
 (hf:f=fun q=>if(decide (0<q.1))=true then(gI 3 c0 q.2.1 q.2.2.1).bind fun r_2=>if(q.2.2.2.length+1)*8<=140737488355328 then some (.inl ((IntKind.i64.wrap (q.1-1)),r_2.2.1,r_2.2.2,(q.2.2.2++[r_2.1])))else none
  else Option.map Sum.inr (some (q.2.2.2,q.2.1,q.2.2.1))) {n i h:Int} (h0:0<=n) (h4:n<4) (hi:Cu c0 i):gG True (gK f (n,i,h,[0])) fun r=>(iJ r.1=true/\r.1.length<=4)/\Cu c0 r.2.1:=by
 refine gG.loop (fun q:Int×Int×Int×fP=>0<=q.1/\q.1<4/\Cu c0 q.2.1/\1<=q.2.2.2.length/\(q.2.2.2.length:Int)+q.1<=4/\∀x∈q.2.2.2,0<=x/\x<=3) (fun q:Int×Int×Int×fP=>q.1.toNat) ⟨h0,h4,hi,by simp,by simp;omega,by simp⟩ ?_;rintro⟨n,i,h,sig⟩ ⟨h1,h2,h3,h5,h6,h7⟩;simp only at h1 h2 h3 h5 h6 h7;subst hf;refine gG.ite (fun hc=>?_) fun hc=>?_
 ·simp only[ak]at hc;refine gG.bind (jG hs h3 3 h) fun r hr=>gG.need (by simp only;omega) (.some ?_)
  have:=hr.2.1 gB;simp only[tC];rw[jE (n:=n-1) gB gB];refine⟨⟨gB,gB,hr.2.2.2,by simp,by simp;omega,fun x hx=>?_⟩,gB⟩;rcases aI.1 hx with hx|hx
  ·exact h7 x hx
  ·simp at hx;subst hx;have:=hr.1;omega
 ·refine gG.inr (.some ?_);simp only[tC];exact⟨⟨ow.2 ⟨h5,gB,h7⟩,gB⟩,h3⟩
theorem IM{c0:fP}{i:Int}(hs:Small c0)(hi:Cu c0 i)(h:Int):gG True (oR c0 i h) fun r=>(iJ r.1=true/\r.1.length<=4)/\Cu c0 r.2.1:=by
 unfold oR;refine gG.bind (mh hs hi 4 h) fun r hr=>gG.ite (fun _=>?_) fun _=>.some ⟨⟨show iJ [2,1,0]=true by decide,show [2,1,0].length<=4 by decide⟩,hr⟩
 refine gG.bind (jG hs hr 4 _) fun r1 h1=>?_
 exact OY hs (by funext ⟨a,b,c,d⟩;rfl) h1.1 (h1.2.1 gB) h1.2.2.2
def tb:Nat->Nat
 |0=>1
 |d+1=>1+3*tb d
theorem Ju(d:Nat):1<=tb d:=by cases d<;>simp[tb]
theorem Nr{a:fP}{f:Nat}(hf:f<a.length)(h0:a.getD f default=0):Wf a 1 [(f:Int)]:=by
 refine Wf.jZ.2 ⟨⟨gB,gB⟩,?_⟩;have:od a (f:Int)=0:=by
  simp only[od,show ¬(f:Int)<0 by omega,aG,aq];rw[show a.getD f 0=a.getD f default from rfl,h0];rfl
 rw[this];exact Wf.nil
theorem Pj{a:fP}{x:Int}(h1: -24<=x)(h2:x<0):Wf a 1 [x]:=by
 refine Wf.jZ.2 ⟨⟨h1,gB⟩,?_⟩;have:od a x=0:=by simp[od,h2]
 rw[this];exact Wf.nil
def V3(t:fP):Prop:=∀x∈t, -3<=x
theorem Jz{x:Int}(h: -3<=x):V3 [x]:=fun y hy=>by rw[bh]at hy;omega
theorem V3.app{s t:fP}(hs:V3 s)(ht:V3 t):V3 (s++t):=fun x hx=>(aI.1 hx).elim (hs x) (ht x)
theorem V3.cons{x:Int}{t:fP}(hx: -3<=x)(ht:V3 t):V3 (x::t):=fun y hy=>by
 rcases bu.1 hy with rfl|h
 ·exact hx
 ·exact ht y h
theorem xZ{a c0:fP}(ha:iJ a=true){i h:Int}(hi:Cu c0 i){d:Nat}{f:Int->Option gz}
 (hf:f=fun f=>if(decide (0<=f))=true then if 0<=f/\f<(a.length:Int)then if((a.getD f.toNat default)==0)=true then Option.map Sum.inr (some ([f],i,h))else some (.inl (IntKind.i64.wrap (f-1)))else none else Option.map Sum.inr (some ([(-1)],i,h))):
 ∀t,gG t (gK f (IntKind.i64.wrap ((a.length:Int)-1))) fun r=>((Wf a 1 r.1/\r.1.length<=tb d)/\V3 r.1)/\Cu c0 r.2.1:=fun t=>by
 have hl:=(ow.1 ha).2.1;rw[jE (n:=(a.length:Int)-1) gB gB];refine gG.loop (fun q:Int=> -1<=q/\q<a.length) (fun q:Int=>(q+1).toNat) ⟨gB,gB⟩ ?_;intro q hq;subst hf;refine gG.ite (fun hc=>?_) fun hc=>?_
 ·simp only[ak]at hc;refine gG.need ⟨hc,hq.2⟩ (gG.ite (fun h0=>gG.inr (.some ?_)) fun h0=>.some ?_)
  ·have:=Nr (a:=a) (f:=q.toNat) gB (by simpa using h0);rw[show((q.toNat:Nat):Int)=q by omega]at this;exact⟨⟨⟨this,by have:=Ju d;simp;omega⟩,Jz gB⟩,hi⟩
  ·simp only[tC];rw[jE (n:=q-1) gB gB];omega
 ·exact gG.inr (.some ⟨⟨⟨Pj gB gB,by have:=Ju d;simp;omega⟩,Jz gB⟩,hi⟩)
def Gg(a c0:fP)(d:Nat)(r:fP×Int×Int):Prop:=((Wf a 1 r.1/\r.1.length<=tb d)/\V3 r.1)/\Cu c0 r.2.1
theorem Bv{a c0:fP}(hs:Small c0){vars i h:Int}(hv:0<vars)(hv3:vars<=3)(hi:Cu c0 i)(d:Nat){t:Prop}:
 gG t ((gI vars c0 i h).bind fun r_1=>some ([(IntKind.i64.wrap ((-1)-r_1.1))],r_1.2.1,r_1.2.2)) (Gg a c0 d):=by
 refine gG.bind ((jG hs hi vars h).weak fun _=>trivial) fun r hr=>.some ?_
 have:=hr.1;have:=hr.2.1 hv;rw[jE (n:= -1-r.1) gB gB];exact⟨⟨⟨Pj gB gB,by have:=Ju d;simp;omega⟩,Jz gB⟩,hr.2.2.2⟩
theorem D_{a c0:fP}{d:Nat}{k:Int}{us:fP}{f:Int}(hf:0<=f/\f<a.length)(hk:a.getD f.toNat default=k){n:Nat}(hu:Wf a n us)(hn:(n:Int)=k):Wf a 1 (f::us):=by
 refine Wf.jZ.2 ⟨⟨gB,hf.2⟩,?_⟩;have:od a f=n:=by
  simp only[od,show ¬f<0 by omega,aG];rw[show a.getD f.toNat 0=a.getD f.toNat default from rfl,hk];omega
 rw[this,bk];exact hu
theorem Cj{a c0:fP}(ha:iJ a=true)(hs:Small c0){vars:Int}(hv:0<vars)(hv3:vars<=3):∀(fu d:Nat){depth i h:Int},depth<=d+1-> -10<=depth->d<=3->Cu c0 i->
 gG (d+1<=fu) (kV fu a depth vars c0 i h) (Gg a c0 d)
 |0,d,depth,i,h,_,_,_,_=>⟨fun _ h=>by simp[kV]at h,fun h=>by omega⟩
 |fu+1,d,depth,i,h,hd,hd0,hd3,hi=>by
  have hal:=ow.1 ha;unfold kV;refine gG.ite (fun hc=>?_) fun hc=>?_
  ·refine gG.ite (fun _=>?_) fun hx=>absurd hx (by simpa using hv)
   refine gG.bind ((mh hs hi 2 h).weak fun _=>trivial) fun r hr=>gG.ite (fun _=>Bv hs hv hv3 hr d) fun _=>?_
   exact xZ ha hr (by funext f;rfl) _
  ·simp only[bS]at hc;refine gG.bind ((mh hs hi 4 h).weak fun _=>trivial) fun r hr=>gG.ite (fun _=>?_) fun _=>?_
   ·refine gG.ite (fun _=>?_) fun hx=>absurd hx (by simpa using hv)
    refine gG.bind ((mh hs hr 2 _).weak fun _=>trivial) fun r3 h3=>gG.ite (fun _=>Bv hs hv hv3 h3 d) fun _=>?_
    exact xZ ha h3 (by funext f;rfl) _
   ·refine gG.bind ((jG hs hr (a.length:Int) _).weak fun _=>trivial) fun r5 h5=>?_
    have hf:0<=r5.1/\r5.1<(a.length:Int):=⟨h5.1,h5.2.1 gB⟩;refine gG.need hf ?_;cases d with
    |zero=>omega
    |succ d=>
     have hk:=hal.2.2 _ (nY (show r5.1.toNat<a.length by omega));generalize hkk:a.getD r5.1.toNat default=kk at hk;refine gG.loop (fun q:fP×Int×Int×Int=>∃(j:Nat)(us:fP),q.1=r5.1::us/\Wf a j us/\us.length<=j*tb d/\q.2.1=kk-j/\(j:Int)<=kk/\Cu c0 q.2.2.1/\V3 us) (fun q:fP×Int×Int×Int=>q.2.1.toNat)
      ⟨0,[],rfl,Wf.nil,by simp,by simp only;omega,gB,h5.2.2.2,fun x hx=>by cases hx⟩ ?_
     rintro⟨out,k,i2,g⟩ ⟨j,us,rfl,h6,h7,rfl,h8,h9,hv9⟩;simp only at h9;simp only[qz];have htb:tb d<=40:=by
      have:d<=2:=by omega
      match d,this with
      |0,_=>decide
      |1,_=>decide
      |2,_=>decide
     have hj3:j<=3:=by omega
     have hjt:j*tb d<=3*40:=ez hj3 htb;refine gG.ite (fun hc2=>?_) fun hc2=>?_
     ·simp only[ak]at hc2;rw[jE (n:=depth-1) gB gB];refine gG.bind ((Cj ha hs hv hv3 fu d (depth:=depth-1) (i:=i2) (h:=g) gB gB gB h9).weak fun h=>by omega) fun r6 hr6=>?_
      obtain⟨⟨⟨e1,e2⟩,e4⟩,e3⟩:=hr6;refine gG.need (by simp only[ai];omega) (.some ?_);simp only[tC];rw[jE (n:=kk-j-1) gB gB];refine⟨⟨j+1,us++r6.1,by simp,h6.app e1,?_,gB,gB,e3,hv9.app e4⟩,gB⟩;rw[aj,bH,Nat.one_mul];omega
     ·simp only[bS]at hc2;refine gG.inr (.some ?_);simp only[tC];refine⟨⟨⟨D_ (c0:=c0) (d:=d) hf hkk h6 gB,?_⟩,hv9.cons gB⟩,h9⟩;simp only[ai,tb];have:=cq (tb d) hj3;omega
theorem qX{a c0:fP}(ha:iJ a=true)(hs:Small c0){vars:Int}(hv:0<vars)(hv3:vars<=3)(d:Nat){depth i:Int}(h:Int)(h1:depth<=d+1)(h2: -10<=depth)(h3:d<=3)(hi:Cu c0 i):
 gG True (iX a depth vars c0 i h) (Gg a c0 d):=by
 unfold iX;exact gG.lim (d+1) fun n=>Cj ha hs hv hv3 n d h1 h2 h3 hi
theorem Fl{a c0:fP}(ha:iJ a=true)(hs:Small c0){vars:Int}(hv:0<vars)(hv3:vars<=3)(fu:Nat)(d:Nat){depth i h:Int}(hd:depth<=d+1)(hd0: -10<=depth)(hd3:d<=3)(hi:Cu c0 i):
 gG (1<=fu) (kE fu a depth vars c0 i h) (Gg a c0 d):=by
 have hal:=ow.1 ha;cases fu with
 |zero=>exact⟨fun _ h=>by simp[kE]at h,fun h=>by omega⟩
 |succ fu=>
  unfold kE;refine gG.ite (fun hc=>?_) fun hc=>?_
  ·refine gG.ite (fun _=>?_) fun hx=>absurd hx (by simpa using hv)
   refine gG.bind ((mh hs hi 2 h).weak fun _=>trivial) fun r hr=>gG.ite (fun _=>Bv hs hv hv3 hr d) fun _=>?_
   exact xZ ha hr (by funext f;rfl) _
  ·simp only[bS]at hc;refine gG.bind ((mh hs hi 4 h).weak fun _=>trivial) fun r hr=>gG.ite (fun _=>?_) fun _=>?_
   ·refine gG.ite (fun _=>?_) fun hx=>absurd hx (by simpa using hv)
    refine gG.bind ((mh hs hr 2 _).weak fun _=>trivial) fun r3 h3=>gG.ite (fun _=>Bv hs hv hv3 h3 d) fun _=>?_
    exact xZ ha h3 (by funext f;rfl) _
   ·refine gG.bind ((jG hs hr (a.length:Int) _).weak fun _=>trivial) fun r5 h5=>?_
    have hf:0<=r5.1/\r5.1<(a.length:Int):=⟨h5.1,h5.2.1 gB⟩;refine gG.need hf ?_;cases d with
    |zero=>omega
    |succ d=>
     have hk:=hal.2.2 _ (nY (show r5.1.toNat<a.length by omega));generalize hkk:a.getD r5.1.toNat default=kk at hk;refine gG.loop (fun q:Int×Int×Int×fP=>∃(j:Nat)(us:fP),q.2.2.2=r5.1::us/\Wf a j us/\us.length<=j*tb d/\q.1=kk-j/\(j:Int)<=kk/\Cu c0 q.2.1/\V3 us) (fun q:Int×Int×Int×fP=>q.1.toNat)
      ⟨0,[],rfl,Wf.nil,by simp,by simp only;omega,gB,h5.2.2.2,fun x hx=>by cases hx⟩ ?_
     rintro⟨k,i2,g,out⟩ ⟨j,us,h10,h6,h7,rfl,h8,h9,hv9⟩;simp only at h9 h10;subst h10;simp only[oS];have htb:tb d<=40:=by
      have:d<=2:=by omega
      match d,this with
      |0,_=>decide
      |1,_=>decide
      |2,_=>decide
     have hj3:j<=3:=by omega
     have hjt:j*tb d<=3*40:=ez hj3 htb;refine gG.ite (fun hc2=>?_) fun hc2=>?_
     ·simp only[ak]at hc2;rw[jE (n:=depth-1) gB gB];refine gG.bind ((qX ha hs hv hv3 d (depth:=depth-1) (i:=i2) g gB gB gB h9).weak fun _=>trivial) fun r6 hr6=>?_
      obtain⟨⟨⟨e1,e2⟩,e4⟩,e3⟩:=hr6;refine gG.need (by simp only[ai];omega) (.some ?_);simp only[tC];rw[jE (n:=kk-j-1) gB gB];refine⟨⟨j+1,us++r6.1,by simp,h6.app e1,?_,gB,gB,e3,hv9.app e4⟩,gB⟩;rw[aj,bH,Nat.one_mul];omega
     ·simp only[bS]at hc2;refine gG.inr (.some ?_);simp only[tC];refine⟨⟨⟨D_ (c0:=c0) (d:=d) hf hkk h6 gB,?_⟩,hv9.cons gB⟩,h9⟩;simp only[ai,tb];have:=cq (tb d) hj3;omega
theorem wX{a c0:fP}(ha:iJ a=true)(hs:Small c0){vars:Int}(hv:0<vars)(hv3:vars<=3)(d:Nat){depth i:Int}(h:Int)(h1:depth<=d+1)(h2: -10<=depth)(h3:d<=3)(hi:Cu c0 i):
 gG True (jS a depth vars c0 i h) (Gg a c0 d):=by
 unfold jS;exact gG.lim 1 fun n=>Fl ha hs hv hv3 n d h1 h2 h3 hi
def D3(t:fP):Prop:=∀x∈t, -3<=x\/x< -24
theorem V3.d3{t:fP}(h:V3 t):D3 t:=fun x hx=>.inl (h x hx)
theorem D3.app{t:fP}{x:Int}(h:D3 t)(hx: -3<=x\/x< -24):D3 (t++[x]):=fun y hy=>by
 rcases aI.1 hy with hy|hy
 ·exact h y hy
 ·rw[bh]at hy;rw[hy];exact hx
theorem D3.set{t:fP}{x:Int}(h:D3 t)(hx: -3<=x\/x< -24)(i:Nat):D3 (t.set i x):=fun y hy=>by
 rcases eC hy with hy|rfl
 ·exact h y hy
 ·exact hx
theorem Un{x:Int}(hx: -3<=x\/x< -24):D3 [x]:=fun y hy=>by rw[bh]at hy;rw[hy];exact hx
theorem Km{c0:fP}{i:Int}(hs:Small c0)(hi:Cu c0 i)(h:Int):gG True (qW c0 i h) fun r=>(-3<=r.1\/r.1< -24)/\Cu c0 r.2.1:=by
 unfold qW;refine gG.bind (jG hs hi 10 h) fun r hr=>?_
 have h1:=hr.1;have h2:=hr.2.1 gB;refine gG.need ⟨h1,h2⟩ (.some ⟨?_,hr.2.2.2⟩);have key:∀n:Nat,n<10->(-3<=([(-1),0,1,2147483648,(-2147483648),1099511627776,4611686018427387904,(-4611686018427387904),9223372036854775807,(-9223372036854775808)]:fP).getD n default\/([(-1),0,1,2147483648,(-2147483648),1099511627776,4611686018427387904,(-4611686018427387904),9223372036854775807,(-9223372036854775808)]:fP).getD n default< -24):=by decide
 exact key r.1.toNat gB
theorem Jg{c0:fP}{i:Int}(hs:Small c0)(hi:Cu c0 i){most:Int}(h1:0<=most)(h2:most<=1000)(h:Int):gG True (pQ most c0 i h) fun r=>Cu c0 r.2.1:=by
 unfold pQ;refine gG.bind (mh hs hi 10 h) fun r hr=>gG.ite (fun _=>?_) fun _=>?_
 ·refine gG.bind (Km hs hr _) fun r1 hr1=>gG.bind (jG hs hr1.2 4 _) fun r2 hr2=>gG.need ⟨hr2.1,hr2.2.1 gB⟩ (.some hr2.2.2.2)
 ·refine gG.bind (mh hs hr 2 _) fun r3 hr3=>gG.ite (fun _=>?_) fun _=>?_
  ·unfold vF;refine gG.bind (P:=fun x=>x=most\/x=4) (gG.ite (fun _=>.some (.inl rfl)) fun _=>.some (.inr rfl)) fun r4 hr4=>?_
   exact gG.bind (jG hs hr3 _ _) fun r5 hr5=>.some hr5.2.2.2
  ·exact gG.bind (jG hs hr3 _ _) fun r5 hr5=>.some hr5.2.2.2
theorem Ci{a c0:fP}(hs:Small c0){i:Int}(h:Int)(hi:Cu c0 i):gG True (jC a c0 i h) fun r=>(r.1.length<=60/\D3 r.1)/\Cu c0 r.2.1:=by
 have dflt:∀g,gG True ((mL (-2) 2 c0 i g).bind fun r=>some ([r.1],r.2.1,r.2.2)) fun r=>(r.1.length<=60/\D3 r.1)/\Cu c0 r.2.1:=fun g=>
  gG.bind (Fv hs hi g gB gB gB) fun r hr=>.some ⟨⟨by simp,Un (.inl gB)⟩,hr.2.2⟩
 have tb3:tb 3=40:=by decide
 unfold jC;refine gG.ite (fun _=>dflt h) fun _=>?_
 rw[sj,aa];refine gG.ite (fun ha=>?_) fun _=>dflt h
 refine gG.bind (jG hs hi 4 h) fun r2 h2=>?_
 have:=h2.1;have:=h2.2.1 gB;rw[jE (n:=1+r2.1) gB gB];refine gG.bind (wX ha hs (vars:=3) gB gB 3 _ gB gB gB h2.2.2.2) fun r3 h3=>?_
 obtain⟨⟨⟨w1,l2⟩,v3⟩,c3⟩:=h3;have l1:=w1.len;have d3:=v3.d3;refine gG.bind (mh hs c3 12 _) fun r4 h4=>gG.ite (fun _=>?_) fun _=>.some ⟨⟨by simp only;omega,d3⟩,h4⟩
 refine gG.bind (jG hs h4 4 _) fun r5 h5=>?_
 refine gG.ite (fun _=>?_) fun _=>gG.ite (fun _=>?_) fun _=>gG.ite (fun _=>?_) fun _=>gG.ite (fun _=>?_) fun _=>.some ⟨⟨by simp only;omega,d3⟩,h5.2.2.2⟩
 ·exact gG.bind (Fv hs h5.2.2.2 _ gB gB gB) fun r6 h6=>gG.need gB (.some ⟨⟨by simp;omega,d3.app (.inl gB)⟩,h6.2.2⟩)
 ·refine gG.bind (jG hs h5.2.2.2 (r3.1.length:Int) _) fun r7 h7=>gG.bind (Fv hs h7.2.2.2 _ gB gB gB) fun r8 h8=>gG.need ⟨h7.1,h7.2.1 gB⟩ (.some ⟨⟨by simp;omega,d3.set (.inl gB) _⟩,h8.2.2⟩)
 ·exact gG.need gB (.some ⟨⟨by simp;omega,fun x hx=>d3 x (ee _ _ hx)⟩,h5.2.2.2⟩)
 ·exact gG.bind (Km hs h5.2.2.2 _) fun r9 h9=>gG.need gB (.some ⟨⟨by simp;omega,d3.app h9.1⟩,h9.2⟩)
theorem Fk{c0:fP}{i:Int}(hs:Small c0)(hi:Cu c0 i)(h:Int):gG True (oA c0 i h) fun r=>(iJ r.1=true/\r.2.1.length<=10)/\Cu c0 r.2.2.1:=by
 unfold oA;refine gG.bind (mh hs hi 4 h) fun r hr=>gG.ite (fun _=>?_) fun _=>?_
 ·refine gG.bind (IM hs hr _) fun r1 hr1=>?_
  obtain⟨⟨s1,s2⟩,c1⟩:=hr1;refine gG.loop (fun q:fP×Int×Int×Int=>∃j:Nat,j<=r1.1.length/\q.2.1=j/\q.1.length<=j/\Cu c0 q.2.2.1) (fun q:fP×Int×Int×Int=>r1.1.length-q.2.1.toNat) ⟨0,gB,rfl,by simp,c1⟩ ?_;rintro⟨ac,_,c,c'⟩ ⟨j,h1,rfl,h2,h3⟩;simp only at h2 h3;simp only[qA];by_cases hj:j<r1.1.length
  ·rw[ah (by simpa using hj),ah gB,jE (n:=(j:Int)+1) gB gB];refine gG.ite (fun _=>?_) fun _=>.some ⟨⟨j+1,gB,by simp,by simp only[];omega,h3⟩,by simp only[];omega⟩
   refine gG.bind (mh hs h3 5 _) fun r2 hr2=>gG.ite (fun _=>.some ⟨⟨j+1,gB,by simp,by simp only[];omega,hr2⟩,by simp only[];omega⟩) fun _=>gG.need gB (.some ⟨⟨j+1,gB,by simp,by simp only[aj,bG];omega,hr2⟩,by simp only[];omega⟩)
  ·rw[az (by simp only[ak];omega)];refine gG.inr (gG.bind (mh hs h3 15 _) fun r3 hr3=>gG.ite (fun _=>?_) fun _=>.some ⟨⟨s1,by simp only[];omega⟩,hr3⟩);exact gG.bind (Jg hs hr3 gB gB _) fun r4 hr4=>gG.need gB (.some ⟨⟨s1,by simp only[aj,bG];omega⟩,hr4⟩)
 ·refine gG.loop (fun q:fP×Int×Int×Int=>∃j:Nat,j<=4/\q.2.1=j/\q.1.length<=j/\Cu c0 q.2.2.1) (fun q:fP×Int×Int×Int=>4-q.2.1.toNat) ⟨0,gB,rfl,by simp,hr⟩ ?_;rintro⟨ac,_,c,c'⟩ ⟨j,h1,rfl,h2,h3⟩;simp only at h2 h3;simp only[qB];by_cases hj:j<4
  ·rw[ah (by simp only[ak];omega),ah gB,jE (n:=(j:Int)+1) gB gB];refine gG.ite (fun _=>?_) fun _=>.some ⟨⟨j+1,gB,by simp,by simp only[];omega,h3⟩,by simp only[];omega⟩
   refine gG.bind (mh hs h3 5 _) fun r2 hr2=>gG.ite (fun _=>.some ⟨⟨j+1,gB,by simp,by simp only[];omega,hr2⟩,by simp only[];omega⟩) fun _=>gG.need gB (.some ⟨⟨j+1,gB,by simp,by simp only[aj,bG];omega,hr2⟩,by simp only[];omega⟩)
  ·rw[az (by simp only[ak];omega)];have s1:iJ [2,0,1,0]=true:=by decide
   refine gG.inr (gG.bind (mh hs h3 15 _) fun r3 hr3=>gG.ite (fun _=>?_) fun _=>.some ⟨⟨s1,by simp only[];omega⟩,hr3⟩);exact gG.bind (Jg hs hr3 gB gB _) fun r4 hr4=>gG.need gB (.some ⟨⟨s1,by simp only[aj,bG];omega⟩,hr4⟩)
theorem Ad{a c0:fP}(ha:iJ a=true)(hs:Small c0){i:Int}(h:Int)(hi:Cu c0 i):gG True (iN a c0 i h) fun r=>(r.1.length<=60/\D3 r.1)/\Cu c0 r.2.1:=by
 unfold iN;have tb3:tb 3=40:=by decide
 refine gG.bind (mh hs hi 15 h) fun r hr=>gG.ite (fun _=>?_) fun _=>?_
 ·exact gG.bind (Ci hs _ hr) fun r1 hr1=>.some hr1
 ·refine gG.bind (jG hs hr 4 _) fun r2 h2=>?_
  have:=h2.1;have:=h2.2.1 gB;rw[jE (n:=1+r2.1) gB gB];refine gG.bind (qX ha hs (vars:=2) gB gB 3 _ gB gB gB h2.2.2.2) fun r3 h3=>.some ?_
  obtain⟨⟨⟨w1,l2⟩,v3⟩,c3⟩:=h3;exact⟨⟨gB,v3.d3⟩,c3⟩
theorem NM{xs:List fP}{u:fP}(hl:xs.length<=1000000)(hs:∀x∈xs,Small x):iz xs u=some (decide (u∈xs)):=by
 unfold iz jP;have key:=DN (xs:=xs) (p:=fun x=>x==u) (f:=iP xs u) (fun i x hi hx he=>by
  rw[iP,ah (by simpa using hi),ah gB];simp only[aq,he];unfold oy;rw[mU (hs x hx),aa,aa,jE (n:=(i:Int)+1) gB gB];split<;>rfl) (by rw[iP,az (by simp)];rfl)
 rw[key,aa];congr 1;refine dz.2 ⟨fun h=>?_,fun h=>EM h (by simp)⟩;by_cases h2:u∈xs
 ·exact h2
 ·have:=Ck (p:=fun x=>x==u) (xs:=xs) fun x hx=>by
   simp only[dO,ne_eq];exact fun e=>h2 (by rw[<-e];exact hx)
  omega
structure wA(a ac:fP)(o1 o2:List fP):Prop where
 nodup:o1.Nodup
 eq:o2=jK o1
 sf:∀x∈o1,Sf a ac x/\x.length<=60
theorem wA.nil{a ac:fP}:wA a ac [] []:=⟨List.nodup_nil,(yt List.Pairwise.nil).symm,fun x h=>by cases h⟩
noncomputable def GH(a ac p s r:fP)(x:Bd):Option fP:=if(Tm.sub (Tm.sig x) r).length<=60/\(p++(Tm.sub (Tm.sig x) r++s)).length<=60 then some (form a ac (p++(Tm.sub (Tm.sig x) r++s)))else none
theorem Lg{a ac p u s r:fP}{A O1 O2:List Bd}(hac:tA a ac)(hs:Small ac)(ha:iJ a=true)(hl:(p++(u++s)).length<=60)(ht:Wf a 1 (p++(u++s)))(hu:Wf a 1 u)(hr:r.length<=1000)(hr24:∀x∈r, -24<=x)
 (Y0:A.length<=20) (o1:BC A O1) (o2:BC A O2) (hA:∀x∈A,PL x) (hw:∀x∈A,Wf a 1 (p++(Tm.sub (Tm.sig x) r++s))) {out1 out2:List fP} (hO:wA a ac out1 out2) (hn:out1.length<=100000):
 ∃b o1' o2',gK (jW (p.length:Int) r a ac (p++(u++s)) (O1,true)) (0,out1)=some (b,o1')/\gK (l_ a ac r (p++(u++s)) (p.length:Int) (O2,true)) (out2,0)=some (o2',b)/\
  (b=true->wA a ac o1' o2'/\o1'.length<=out1.length+20/\(∀x∈out1,x∈o1')/\∀x∈A,∃v,GH a ac p s r x=some v/\v∈o1'):=by
 have l1:=o1.1;have l2:=o2.1;have hm24:∀x∈p++(u++s), -24<=x:=fun x hx=>(ht.all x hx).1
 have hpl:∀(x:Bd)(o:Bd),PL x->YS x o->o.length<=24/\(∀i,(o.getD i []).length<=60)/\∀w∈o,w.length<=60:=fun x o hx ho=>by
  obtain⟨h1,h2⟩:=Cv hx.2 ho.2;exact⟨ho.1,h1,h2⟩
 have key:∀k j:Nat,j+k=A.length->∀out1 out2,wA a ac out1 out2->out1.length<=100000+j->
  ∃b o1' o2',gK (jW (p.length:Int) r a ac (p++(u++s)) (O1,true)) ((j:Int),out1)=some (b,o1')/\gK (l_ a ac r (p++(u++s)) (p.length:Int) (O2,true)) (out2,(j:Int))=some (o2',b)/\
   (b=true->wA a ac o1' o2'/\o1'.length<=out1.length+k/\(∀x∈out1,x∈o1')/\∀i,j<=i->∀hi:i<A.length,∃v,GH a ac p s r A[i]=some v/\v∈o1'):=by
  intro k;induction k with
  |zero=>
   intro j hj out1 out2 hO hn;refine⟨true,out1,out2,ij ?_,ij ?_,fun _=>⟨hO,gB,fun x h=>h,fun i h1 h2=>by omega⟩⟩
   ·simp only[jW];rw[az (by simp only[ak];omega)];rfl
   ·simp only[l_];rw[az (by simp only[ak];omega)];rfl
  |succ k ih=>
   intro j hj out1 out2 hO hn;have hjA:j<A.length:=by omega
   have hj1:j<O1.length:=by omega
   have hj2:j<O2.length:=by omega
   have hx:=hA _ (aA hjA);obtain⟨q1,q2,q3⟩:=hpl _ _ hx (o1.2 j hjA hj1);obtain⟨r1,r2,r3⟩:=hpl _ _ hx (o2.2 j hjA hj2);have hsub1:Tm.sub (Tm.sig O1[j]) r=Tm.sub (Tm.sig A[j]) r:=sub_congr fun x _ h0=>B3 (o1.2 j hjA hj1).2 h0
   have hsub2:Tm.sub (Tm.sig O2[j]) r=Tm.sub (Tm.sig A[j]) r:=sub_congr fun x _ h0=>B3 (o2.2 j hjA hj2).2 h0
   have f1:=CW (s:=O1[j]) q1 q2 hr hr24;have f2:=sI (s:=O2[j]) r1 r3 hr hr24;unfold rQ at f1 f2;rw[hsub1]at f1;rw[hsub2]at f2;have g1:jW (p.length:Int) r a ac (p++(u++s)) (O1,true) ((j:Int),out1)=(qx O1[j] r).bind fun r_3=>
    if r_3.2=true then
     (uo a (p++(u++s)) (p.length:Int) r_3.1).bind fun r_4=>
     if r_4.2=true then
      (iu (a,ac) r_4.1).bind fun r_5=>
      (iz out1 r_5).bind fun r_6=>
      if r_6=true then some (.inl ((j:Int)+1,out1))
      else if(out1.length+1)*24<=140737488355328 then some (.inl ((j:Int)+1,(out1++[r_5])))else none
     else Option.map Sum.inr (some (false,out1))
    else Option.map Sum.inr (some (false,out1)):=by
    simp only[jW];rw[ah (by simp only[ak];omega),ah gB,jE (n:=(j:Int)+1) gB gB];simp only[aq,gO hj1]
   have g2:l_ a ac r (p++(u++s)) (p.length:Int) (O2,true) (out2,(j:Int))=(lC O2[j] r).bind fun r_3=>
    if r_3.2=true then
     (oD a (p++(u++s)) (p.length:Int) r_3.1).bind fun r_4=>
     if r_4.2=true then
      (jq a ac r_4.1).bind fun r_5=>
      (lF out2 r_5).bind fun r_6=>
      if(decide (r_6<0))=true then
       (mH out2 r_5).bind fun r_7=>some (.inl (r_7,(j:Int)+1))
      else some (.inl (out2,(j:Int)+1))
     else Option.map Sum.inr (some (out2,false))
    else Option.map Sum.inr (some (out2,false)):=by
    simp only[l_];rw[ah (by simp only[ak];omega),ah gB,jE (n:=(j:Int)+1) gB gB];simp only[aq,gO hj2]
   rw[f1,aa]at g1;rw[f2,aa]at g2;by_cases h60:(Tm.sub (Tm.sig A[j]) r).length<=60
   ·simp only[ah h60,ud,aH]at g1 g2;rw[Ei ha hu hm24 hl h60,aa]at g1;rw[vo ha hu hl h60,aa]at g2;unfold Ht at g1 g2;rw[CR hu]at g1 g2;by_cases h61:(p++(Tm.sub (Tm.sig A[j]) r++s)).length<=60
    ·have hwf:=hw _ (aA hjA);have hsf:=ri hac hwf;have hfl:=(ku hac _ (ay _) hwf).2.1;simp only[ah h61,ud,aH]at g1 g2;rw[mZ hac hs ha hwf h61,aa,NM gB (fun x hx=>rW (a:=a) (ac:=ac) (hO.sf x hx).2),aa]at g1;have hlen2:out2.length=out1.length:=by rw[hO.eq,pF]
     have hmem2:∀x,x∈out2<->x∈out1:=fun x=>by rw[hO.eq];exact(iO _).mem_iff
     rw[rY hac hs ha hwf h61,aa]at g2;obtain⟨pl,hpl1,hpl2⟩:=(D4 (l:=out2) (t:=form a ac (p++(Tm.sub (Tm.sig A[j]) r++s))) gB (fun x hx=>rW (a:=a) (ac:=ac) (hO.sf x ((hmem2 x).1 hx)).2)).get;rw[hpl1,aa]at g2;have hcame:GH a ac p s r A[j]=some (form a ac (p++(Tm.sub (Tm.sig A[j]) r++s))):=by unfold GH;rw[ah ⟨h60,h61⟩]
     generalize hv:form a ac (p++(Tm.sub (Tm.sig A[j]) r++s))=v at *;by_cases hin:v∈out1
     ·rw[ah (by simpa using hin)]at g1;have hnn:¬pl<0:=by
       rcases hpl2 with⟨_,h⟩|⟨i,hi,h,_⟩
       ·exact absurd ((hmem2 v).2 hin) h
       ·omega
      rw[az (by simpa using hnn)]at g2;obtain⟨b,o1',o2',e1,e2,e3⟩:=ih (j+1) gB out1 out2 hO gB;refine⟨b,o1',o2',?_,?_,fun hb=>?_⟩
      ·rw[kX g1];exact e1
      ·rw[kX g2];exact e2
      ·obtain⟨e4,e5,e6,e7⟩:=e3 hb;refine⟨e4,gB,e6,fun i hi1 hi2=>?_⟩;by_cases hij:i=j
       ·subst hij;exact⟨v,hcame,e6 v hin⟩
       ·exact e7 i gB hi2
     ·rw[az (by simpa using hin),ah gB]at g1;have hnn:pl<0:=by
       rcases hpl2 with⟨h,_⟩|⟨i,hi,_,h⟩
       ·exact h
       ·exact absurd ((hmem2 v).1 (by rw[<-h];exact aA hi)) hin
      rw[ah (by simpa using hnn),Cx gB (fun x hx=>rW (a:=a) (ac:=ac) (hO.sf x ((hmem2 x).1 hx)).2) (by show v.length<_;omega) (by rw[hO.eq];exact jw _),aa]at g2;have hO':wA a ac (out1++[v]) (jK (v::out2)):=by
       refine⟨?_,?_,fun x hx=>?_⟩
       ·rw[dm];exact⟨hO.nodup,by simp,fun x hx y hy e=>hin (by rw[<-(by simpa using hy:y=v),<-e];exact hx)⟩
       ·rw[hO.eq,D0,D1]
       ·rcases aI.1 hx with hx|hx
        ·exact hO.sf x hx
        ·rw[bh]at hx;rw[hx];exact⟨hsf,gB⟩
      obtain⟨b,o1',o2',e1,e2,e3⟩:=ih (j+1) gB _ _ hO' (by simp only[aj,bG];omega);refine⟨b,o1',o2',?_,?_,fun hb=>?_⟩
      ·rw[kX g1];exact e1
      ·rw[kX g2];exact e2
      ·obtain⟨e4,e5,e6,e7⟩:=e3 hb;simp only[aj,bG]at e5;refine⟨e4,gB,fun x hx=>e6 x (bz _ hx),fun i hi1 hi2=>?_⟩;by_cases hij:i=j
       ·subst hij;exact⟨v,hcame,e6 v (by simp)⟩
       ·exact e7 i gB hi2
    ·simp only[az h61,ud,au,aG]at g1 g2;exact⟨false,_,_,ij g1,ij g2,fun h=>by cases h⟩
   ·simp only[az h60,ud,au,aG]at g1 g2;exact⟨false,_,_,ij g1,ij g2,fun h=>by cases h⟩
 obtain⟨b,o1',o2',e1,e2,e3⟩:=key A.length 0 gB out1 out2 hO hn;refine⟨b,o1',o2',e1,e2,fun hb=>?_⟩;obtain⟨e4,e5,e6,e7⟩:=e3 hb;refine⟨e4,gB,e6,fun x hx=>?_⟩;obtain⟨i,hi,rfl⟩:=cn hx;exact e7 i gB hi
theorem KF{a ac l t r:fP}(hl:Wf a 1 l){g:Bd}(hr:RM a ac l t g0 g)(hv:∀x∈r,x<0->x∈l):Tm.sub (Tm.sig (yF g)) r=Tm.sub (gZ g) r:=
 sub_congr fun x hx h0=>by
  have hxl:=hv x hx h0;have h24:=(hl.all x hxl).1;have hn:=(hr.1.sf x hxl h0).ne;have e:=CP (g:=g) (i:=(-1-x).toNat) gB;unfold Tm.sig;have e':gZ (yF g) x=gZ g x:=by
   unfold gZ at hn⊢;have e2:(yF g).getD (-1-x).toNat []=_:=e;rw[e2,az hn]
  rw[e',az hn]
theorem Gk{a ac l r p u s:fP}(hac:tA a ac)(hs:Small ac)(ha:iJ a=true)(hlt:(p++(u++s)).length<=60)(ht:Wf a 1 (p++(u++s)))(hu:Wf a 1 u)(hl:Wf a 1 l)(hl60:l.length<=60)(h4:∀x∈l, -4<=x)
 (hr:Wf a 1 r) (hrl:r.length<=1000) (hv:∀x∈r,x<0->x∈l) {out1 out2:List fP} (hO:wA a ac out1 out2) (hn:out1.length<=100000):
 ∃b o1' o2',mE (p.length:Int) l r a ac (p++(u++s)) out1=some (b,o1')/\oZ a ac l r (p++(u++s)) (p.length:Int) out2=some (o2',b)/\
  (b=true->wA a ac o1' o2'/\o1'.length<=out1.length+20/\(∀x∈out1,x∈o1')/\∀g',RM a ac l (form a ac u) g0 g'->form a ac (p++(Tm.sub (gZ g') r++s))∈o1'):=by
 have hul:u.length<=60:=by simp only[aj]at hlt;omega
 have hsub1:=p_ ha (rW (a:=a) (ac:=ac) hlt) (fun x hx=>(ht.all x hx).1) (i:=p.length) (u:=u) (r:=s) ck hu;have hsub2:=mz ha (rW (a:=a) (ac:=ac) hlt) (i:=p.length) (u:=u) (r:=s) ck hu;unfold mE oZ;rw[hsub1,hsub2,aa,aa];rcases P3 hac hs ha hl hl60 h4 hu hul with⟨e1,e2⟩|⟨A,O1,O2,hR⟩
 ·rw[e1,e2,aa,aa];exact⟨false,out1,out2,rfl,rfl,fun h=>by cases h⟩
 ·rw[hR.impl,hR.spec,aa,aa,ah rfl,ah rfl];have hA:∀x∈A,PL x:=fun x hx=>by
   obtain⟨g,h1,rfl⟩:=(hR.mem x).1 hx;exact FO hR.env (hR.gb g h1)
  have hw:∀x∈A,Wf a 1 (p++(Tm.sub (Tm.sig x) r++s)):=fun x hx=>by
   obtain⟨g,h1,rfl⟩:=(hR.mem x).1 hx;rw[KF hl h1 hv];exact Wf.put hu (hr.sub fun x hx h0=>h1.1.wf x (hv x hx h0) h0) ht
  obtain⟨b,o1',o2',e1,e2,e3⟩:=Lg hac hs ha hlt ht hu hrl (fun x hx=>(hr.all x hx).1) hR.Y0 hR.o1 hR.o2 hA hw hO hn;refine⟨b,o1',o2',e1,e2,fun hb=>?_⟩;obtain⟨e4,e5,e6,e7⟩:=e3 hb;refine⟨e4,e5,e6,fun g' hg'=>?_⟩;obtain⟨v,h1,h2⟩:=e7 (yF g') ((hR.mem _).2 ⟨g',hg',rfl⟩);unfold GH at h1;rw[KF hl hg' hv]at h1;split at h1
  ·rw[en h1];exact h2
  ·cases h1
theorem Gu{l:fP}(h0:0<l.length)(hl:l.length<=1000)(h24:∀x∈l, -24<=x/\x<=1000):∃B,rL l=some B/\qd l=some B/\0<=B/\(∀y∈l, -y<=B)/\∀b,0<=b->(∀y∈l, -y<=b)->B<=b:=by
 obtain⟨m,hm,hm2⟩:=(yx h0 (show l.length<1099511627776 by omega)).get;have b1: -24<=m:=(hm2 (-24)).2 fun y hy=>(h24 y hy).1
 have b2:m<=1000:=by
  have:=(hm2 m).1 (dB _) _ (aA h0);have:=(h24 _ (aA h0)).2;omega
 have hmy:∀y∈l,m<=y:=(hm2 m).1 (dB _);refine⟨if 0-m>0 then 0-m else 0,?_,?_,by split<;>omega,fun y hy=>by have:=hmy y hy;split<;>omega,fun b h1 h2=>?_⟩
 ·unfold rL;rw[hm,aa,jE (n:=(0:Int)-m) gB gB]
 ·unfold qd;have key:gG True (gK (pW l) (0,0)) fun n=>0<=n/\n<=24/\∀b,n<=b<->0<=b/\∀y∈l, -y<=b:=by
   refine gG.loop (fun q:Int×Int=>∃j:Nat,j<=l.length/\q.2=j/\0<=q.1/\q.1<=24/\∀b,q.1<=b<->0<=b/\∀y∈l.take j, -y<=b) (fun q:Int×Int=>l.length-q.2.toNat) ⟨0,gB,rfl,by simp,by simp,by simp⟩ ?_;rintro⟨n,_⟩ ⟨j,h1,rfl,h2,h3,h4⟩;simp only at h2 h3 h4;simp only[pW];by_cases hj:j<l.length
   ·have hb:=h24 _ (aA hj);rw[ah (by simpa using hj),ah gB,jE (n:=(j:Int)+1) gB gB];simp only[aq,gO hj];rw[jE (n:=(0:Int)-l[j]) gB gB];unfold vE;have hmem:∀b,(∀y∈l.take (j+1), -y<=b)<->(∀y∈l.take j, -y<=b)/\ -l[j]<=b:=fun b=>by
     rw[aN hj];constructor
     ·intro h;exact⟨fun y hy=>h y (bz _ hy),h _ (cT _ (bh.2 rfl))⟩
     ·rintro⟨h1,h2⟩ y hy;rcases aI.1 hy with hy|hy
      ·exact h1 y hy
      ·rw[bh]at hy;rw[hy];exact h2
    refine gG.bind (P:=fun r=>(r=n\/r=0-l[j])/\n<=r/\0-l[j]<=r) (gG.ite (fun hc=>.some ?_) fun hc=>.some ?_) fun r hr=>.some ⟨⟨j+1,gB,by simp,by simp only[];omega,by simp only[];omega,fun b=>?_⟩,by simp only[];omega⟩
    ·have:0-l[j]<n:=by simpa using hc
     exact⟨.inl rfl,gB,gB⟩
    ·have:¬0-l[j]<n:=by simpa using hc
     exact⟨.inr rfl,gB,gB⟩
    ·simp only[];rw[hmem];have:=h4 b;constructor
     ·intro h;have h5:=(h4 b).1 gB;exact⟨h5.1,h5.2,gB⟩
     ·rintro⟨h5,h6,h7⟩;have:=(h4 b).2 ⟨h5,h6⟩;omega
   ·obtain rfl:j=l.length:=by omega
    rw[az (by simp)];rw[bp]at h4;exact .some ⟨h2,h3,h4⟩
  obtain⟨n,e1,e2,e3,e4⟩:=key.get;rw[e1];congr 1;have h1:n<=(if 0-m>0 then 0-m else 0):=(e4 _).2 ⟨by split<;>omega,fun y hy=>by have:=hmy y hy;split<;>omega⟩;have h2:=((e4 n).1 (dB _));have h3: -n<=m:=(hm2 (-n)).2 fun y hy=>by have:=h2.2 y hy;omega
  split<;>split at h1<;>omega
 ·have h3: -b<=m:=(hm2 (-b)).2 fun y hy=>by have:=h2 y hy;omega
  split<;>omega
theorem aac{a:fP}{x:Int}(h1: -24<=x)(h2:x<0):Wf a 1 [x]:=by
 refine Wf.jZ.2 ⟨⟨h1,gB⟩,?_⟩;have:od a x=0:=by unfold od;rw[ah h2]
 rw[this];exact Wf.nil
theorem Pu{a:fP}{f:Int}(ho:yD a f)(h2:od a f=2){u v:fP}(hu:Wf a 1 u)(hv:Wf a 1 v):Wf a 1 (([f]++u)++v):=by
 have e:([f]++u)++v=f::[u,v].flatten:=by simp
 rw[e];refine Wf.jZ.2 ⟨ho,?_⟩;rw[h2];exact Bw (us:=[u,v]) fun w hw=>by
  simp only[bu,cG,eW]at hw;rcases hw with rfl|rfl
  ·exact hu
  ·exact hv
theorem Sb{f x:Int}{l:fP}:[[f],l,[x]].flatten=([f]++l)++[x]:=by simp
def R3(s:Sys):Prop:=∀r∈s.2,∀x∈r.1, -3<=x
def VL:Option ((Int×List fP)⊕((Int×List fP)⊕(List fP×Bool))):=some (.inr (.inr ([],false)))
def VM:Option ((List fP×Int)⊕((List fP×Int)⊕(List fP×Bool))):=some (.inr (.inr ([],false)))
theorem LR{s:Sys}{ac p u q:fP}(hsy:ru s=true)(hac:tA s.1 ac)(hs:Small ac)(h3:R3 s)(hlt:(p++(u++q)).length<=60)(ht:Wf s.1 1 (p++(u++q)))(hu:Wf s.1 1 u){k:Nat}(hk:k<s.2.length)
 {out1 out2:List fP} (hO:wA s.1 ac out1 out2) (hn:out1.length<=90000):
 ∃b o1' o2',lZ s ac (p++(u++q)) (p.length:Int) ((k:Int),out1)=(if b=true then some (.inl ((k:Int)+1,o1'))else VL)/\
  lI s ac (p++(u++q)) (p.length:Int) (out2,(k:Int))=(if b=true then some (.inl (o2',(k:Int)+1))else VM)/\
  (b=true->wA s.1 ac o1' o2'/\o1'.length<=out1.length+40/\(∀x∈out1,x∈o1')/\∀g',RM s.1 ac (s.2.getD k default).1 (form s.1 ac u) g0 g'->form s.1 ac (p++(Tm.sub (gZ g') (s.2.getD k default).2++q))∈o1'):=by
 obtain⟨ha,hc12,hrs⟩:=vS.1 hsy;have hmem:=nY hk;obtain⟨hL,hR,hf0,hv⟩:=yp.1 (hrs _ hmem);have h3k:=h3 _ hmem;obtain⟨_,l1,l2,l3⟩:=jr.1 hL;obtain⟨_,r1,r2,r3⟩:=jr.1 hR;simp only[lZ,lI];rw[ah (by simpa using hk),ah gB,ah (by simpa using hk),ah gB,jE (n:=(k:Int)+1) gB gB];simp only[aq];obtain⟨l,r,hlr⟩:∃l r,s.2.getD k default=(l,r):=⟨_,_,rfl⟩;simp only[hlr]at hL hR hf0 hv h3k l1 l2 l3 r1 r2 r3⊢;unfold oL;obtain⟨b1,m1,m2,e1,e2,e3⟩:=Gk hac hs ha hlt ht hu l3 l2 (fun x hx=>by have:=h3k x hx;omega) r3 gB hv hO gB;simp only[e1,e2,aa];cases b1 with
 |false=>exact⟨false,m1,m2,rfl,rfl,fun h=>by cases h⟩
 |true=>
  obtain⟨e4,e5,e6,e7⟩:=e3 rfl;obtain⟨f,l',rfl,hof,_⟩:=Wf.pos l3;simp only[aH,bC];have h0:(0:Nat)<=0/\(0:Int)<((f::l').length:Int):=by simp only[ai];omega
  rw[ah h0,ah h0,zL hs,mX hs,aa,aa];by_cases hf:f∈ac
  ·simp only[hf,aW,aH];obtain⟨k0,k2⟩:=hac f hf;have hal:=(ow.1 ha).2.1;obtain⟨B,hB1,hB2,hB3,hB4,hB5⟩:=Gu (l:=f::l') (by simp) gB (fun x hx=>by have:=l3.all x hx;have h1:=this.1;have h2:=this.2;omega);have hB6:B<=3:=hB5 3 gB fun y hy=>by have:=h3k y hy;omega
   have hx:Wf s.1 1 [-1-B]:=aac gB gB;have hvar:lz B=some [-1-B]:=by
    unfold lz;rw[jE (n:=(-1:Int)-B) gB gB]
   have hc1:ic [[f],f::l',[-1-B]]=some (([f]++(f::l'))++[-1-B]):=by rw[sB (by simp) (by intro w hw;simp only[bu,cG,eW]at hw;rcases hw with rfl|rfl|rfl<;>first|omega|simp),Sb]
   have hc2:ic [[f],r,[-1-B]]=some (([f]++r)++[-1-B]):=by rw[sB (by simp) (by intro w hw;simp only[bu,cG,eW]at hw;rcases hw with rfl|rfl|rfl<;>first|omega|simp),Sb]
   have hlen:(([f]++(f::l'))++[-1-B]).length=(f::l').length+2:=by simp
   have hlen2:([f]++(f::l')).length=(f::l').length+1:=by simp
   have hlen3:([f]++r).length=r.length+1:=by simp
   rw[hB1,hB2,aa,aa,jE (n:=(-1:Int)-B) gB gB,jE (n:=((f::l').length:Int)+2) gB gB];rw[az (show ¬decide (24<=B)=true by simp only[ak];omega),hvar,aa,hc1,aa,hc2,aa];rw[ah (show(1+(f::l').length)*8<=140737488355328 by omega),ah (show(([f]++(f::l')).length+1)*8<=140737488355328 by rw[hlen2];omega),az (show ¬decide (-1-B< -24)=true by simp only[ak];omega),
    ah (show(1+r.length)*8<=140737488355328 by omega),ah (show(([f]++r).length+1)*8<=140737488355328 by rw[hlen3];omega)]
   by_cases h60:60<(f::l').length+2
   ·rw[ah (show decide (60<((f::l').length:Int)+2)=true by simp only[ak];omega),ah (show decide (60<(((([f]++(f::l'))++[-1-B]).length:Nat):Int))=true by rw[hlen];simp only[ak];omega)];exact⟨false,m1,m2,rfl,rfl,fun h=>by cases h⟩
   ·rw[az (show ¬decide (60<((f::l').length:Int)+2)=true by simp only[ak];omega),az (show ¬decide (60<(((([f]++(f::l'))++[-1-B]).length:Nat):Int))=true by rw[hlen];simp only[ak];omega)];obtain⟨b2,n1,n2,d1,d2,d3⟩:=Gk hac hs ha hlt ht hu (l:=([f]++(f::l'))++[-1-B]) (r:=([f]++r)++[-1-B]) (Pu hof k2 l3 hx) (by rw[hlen];omega) (fun x hx=>by
     simp only[aI,bh]at hx;rcases hx with(rfl|hx)|rfl
     ·omega
     ·have:=h3k x hx;omega
     ·omega) (Pu hof k2 r3 hx) (by simp;omega) (fun x hx hx0=>by
     simp only[aI,bh]at hx⊢;rcases hx with(rfl|hx)|rfl
     ·omega
     ·exact .inl (.inr (hv x hx hx0))
     ·exact .inr rfl) e4 gB
    rw[d1,d2,aa,aa];cases b2 with
    |false=>exact⟨false,n1,n2,rfl,rfl,fun h=>by cases h⟩
    |true=>
     obtain⟨d4,d5,d6,d7⟩:=d3 rfl;exact⟨true,n1,n2,rfl,rfl,fun _=>⟨d4,gB,fun x hx=>d6 x (e6 x hx),fun g' hg'=>d6 _ (e7 g' hg')⟩⟩
  ·simp only[hf,aZ,au,aG,aH,aa];exact⟨true,m1,m2,rfl,rfl,fun _=>⟨e4,gB,e6,e7⟩⟩
def T1(s:Sys)(ac p u q:fP)(k:Nat)(o:List fP):Prop:=∀g',RM s.1 ac (s.2.getD k default).1 (form s.1 ac u) g0 g'->form s.1 ac (p++(Tm.sub (gZ g') (s.2.getD k default).2++q))∈o
theorem DU{s:Sys}{ac p u q:fP}(hsy:ru s=true)(hac:tA s.1 ac)(hs:Small ac)(h3:R3 s)(hlt:(p++(u++q)).length<=60)(ht:Wf s.1 1 (p++(u++q)))(hu:Wf s.1 1 u):
 ∀(m k:Nat),k+m=s.2.length->∀{out1 out2:List fP},wA s.1 ac out1 out2->out1.length+40*m<=80000->
 ∃b o1' o2',gK (lZ s ac (p++(u++q)) (p.length:Int)) ((k:Int),out1)=(if b=true then some (.inl ((p.length:Int)+1,o1'))else some (.inr ([],false)))/\
  gK (lI s ac (p++(u++q)) (p.length:Int)) (out2,(k:Int))=(if b=true then some (.inl (o2',(p.length:Int)+1))else some (.inr ([],false)))/\
  (b=true->wA s.1 ac o1' o2'/\o1'.length<=out1.length+40*m/\(∀x∈out1,x∈o1')/\∀k',k<=k'->k'<s.2.length->T1 s ac p u q k' o1')
 |0,k,hk,out1,out2,hO,hn=>by
  have hpl:p.length<=60:=by simp only[aj]at hlt;omega
  refine⟨true,out1,out2,ij ?_,ij ?_,fun _=>⟨hO,gB,fun x h=>h,fun k' h1 h2=>by omega⟩⟩
  ·simp only[lZ];rw[az (by simp only[ak];omega),jE (n:=(p.length:Int)+1) gB gB];rfl
  ·simp only[lI];rw[az (by simp only[ak];omega),jE (n:=(p.length:Int)+1) gB gB];rfl
 |m+1,k,hk,out1,out2,hO,hn=>by
  obtain⟨b,m1,m2,e1,e2,e3⟩:=LR hsy hac hs h3 hlt ht hu (k:=k) gB hO gB;cases b with
  |false=>exact⟨false,m1,m2,ij e1,ij e2,fun h=>by cases h⟩
  |true=>
   obtain⟨e4,e5,e6,e7⟩:=e3 rfl;obtain⟨b',n1,n2,d1,d2,d3⟩:=DU hsy hac hs h3 hlt ht hu m (k+1) gB e4 gB;refine⟨b',n1,n2,(kX e1).trans d1,(kX e2).trans d2,fun hb=>?_⟩;obtain⟨d4,d5,d6,d7⟩:=d3 hb;refine⟨d4,gB,fun x hx=>d6 x (e6 x hx),fun k' h1 h2=>?_⟩;by_cases hkk:k'=k
   ·subst hkk;exact fun g' hg'=>d6 _ (e7 g' hg')
   ·exact d7 k' gB h2
structure VQ(s:Sys)(ac t:fP)(j:Nat)(out1:List fP)(r:List fP×Bool):Prop where
 none:r.2=false->r.1=[]
 some:r.2=true->∃o1,wA s.1 ac o1 r.1/\o1.length<=60/\(∀x∈out1,x∈o1)/\∀p u q,t=p++(u++q)->j<=p.length->Wf s.1 1 u->∀k,k<s.2.length->T1 s ac p u q k o1
theorem Ct{s:Sys}{ac t:fP}(hsy:ru s=true)(hac:tA s.1 ac)(hs:Small ac)(h3:R3 s)(hlt:t.length<=60)(ht:Wf s.1 1 t):
 ∀(m j:Nat),j+m=t.length->∀{out1 out2:List fP},wA s.1 ac out1 out2->out1.length+480*m<=70000->
 ∃r,gK (lY s ac t) ((j:Int),out1)=some r/\gK (lH s ac t) (out2,(j:Int))=some r/\VQ s ac t j out1 r
 |0,j,hj,out1,out2,hO,hn=>by
  have hlen2:out2.length=out1.length:=by rw[hO.eq,pF]
  by_cases h60:60<out1.length
  ·refine⟨([],false),ij ?_,ij ?_,⟨fun _=>rfl,fun h=>by cases h⟩⟩
   ·simp only[lY];rw[az (by simp only[ak];omega),ah (by simp only[ak];omega)];rfl
   ·simp only[lH];rw[az (by simp only[ak];omega),ah (by simp only[ak];omega)];rfl
  ·refine⟨(out2,true),ij ?_,ij ?_,⟨(fun h=>by cases h),fun _=>⟨out1,hO,gB,fun x h=>h,fun p u q e h1 hu k hk=>?_⟩⟩⟩
   ·simp only[lY];rw[az (by simp only[ak];omega),az (by simp only[ak];omega),Ag gB (fun x hx=>by have:=(hO.sf x hx).2;omega),aa,<-hO.eq];rfl
   ·simp only[lH];rw[az (by simp only[ak];omega),az (by simp only[ak];omega)];rfl
   ·have:=hu.len;have:=aO List.length e;simp only[aj]at this;omega
 |m+1,j,hj,out1,out2,hO,hn=>by
  obtain⟨ha,hc12,hrs⟩:=vS.1 hsy;obtain⟨p,u,q,e,hp,hu⟩:=ht.place (i:=j) gB;have hlt':=hlt;have ht':=ht;rw[e]at hlt' ht';obtain⟨b,m1,m2,e1,e2,e3⟩:=DU hsy hac hs h3 hlt' ht' hu s.2.length 0 gB hO gB;rw[<-e,hp]at e1 e2;have i1:lY s ac t ((j:Int),out1)=gK (lZ s ac t (j:Int)) (0,out1):=by
   simp only[lY];rw[ah (by simp only[ak];omega)]
  have i2:lH s ac t (out2,(j:Int))=gK (lI s ac t (j:Int)) (out2,0):=by
   simp only[lH];rw[ah (by simp only[ak];omega)]
  have e1':=i1.trans e1;have e2':=i2.trans e2;cases b with
  |false=>exact⟨([],false),ij e1',ij e2',⟨fun _=>rfl,fun h=>by cases h⟩⟩
  |true=>
   obtain⟨e4,e5,e6,e7⟩:=e3 rfl;obtain⟨r,d1,d2,d3⟩:=Ct hsy hac hs h3 hlt ht m (j+1) gB e4 gB;refine⟨r,(kX e1').trans d1,(kX e2').trans d2,⟨d3.none,fun hb=>?_⟩⟩;obtain⟨o1,f1,f2,f3,f4⟩:=d3.some hb;refine⟨o1,f1,f2,fun x hx=>f3 x (e6 x hx),fun p' u' q' e' h1 hu' k hk=>?_⟩;by_cases hpp:p'.length=j
   ·have h5:=e.symm.trans e';have h6:=List.append_inj h5 gB;obtain⟨rfl,h7⟩:=h6;obtain⟨rfl,rfl⟩:=hu.uniq hu' h7;exact fun g' hg'=>f3 _ (e7 k gB hk g' hg')
   ·exact f4 p' u' q' e' gB hu' k hk
theorem Ax{s:Sys}{ac t:fP}(hsy:ru s=true)(hac:tA s.1 ac)(hs:Small ac)(h3:R3 s)(hlt:t.length<=60)(ht:Wf s.1 1 t):
 ∃r,nO s ac t=some r/\oq s ac t=some r/\VQ s ac t 0 [] r:=
 Ct hsy hac hs h3 hlt ht t.length 0 gB wA.nil (by simp only[bB];omega)
theorem Lh{a ac:fP}(hac:tA a ac){x:Int}{us vs:List fP}(ho:yD a x)(hl:us.length=od a x)(hl':vs.length=od a x)(hu:∀u∈us,Wf a 1 u)(hv:∀u∈vs,Wf a 1 u)(h:us.map (form a ac)=vs.map (form a ac)):
 form a ac (x::us.flatten)=form a ac (x::vs.flatten):=by
 by_cases hx:x∈ac
 ·obtain⟨k0,k2⟩:=hac x hx;rw[k2]at hl hl';obtain⟨u1,u2,rfl⟩:=qN hl;obtain⟨v1,v2,rfl⟩:=qN hl';have w1:Wf a 1 (x::[u1,u2].flatten):=Wf.jZ.2 ⟨ho,by rw[k2];exact Bw (us:=[u1,u2]) hu⟩;have w2:Wf a 1 (x::[v1,v2].flatten):=Wf.jZ.2 ⟨ho,by rw[k2];exact Bw (us:=[v1,v2]) hv⟩;simp only[aX,dg,dQ,and_true]at h;rw[qZ hac hx w1,qZ hac hx w2];congr 1;refine Af ?_;simp only[aS,bW,bg];have hu1:=hu u1 (by simp);have hu2:=hu u2 (by simp);have hv1:=hv v1 (by simp);have hv2:=hv v2 (by simp);rw[nZ k2 hu1 hu2,nZ k2 hv1 hv2,aQ,aQ];have key:∀u v,Wf a 1 u->Wf a 1 v->form a ac u=form a ac v->((parts a x u).map (form a ac)).Perm ((parts a x v).map (form a ac)):=fun u v hu hv e=>by
   have h1:=xe hac hx hu;have h2:=xe hac hx hv;rw[e]at h1;exact h1.symm.trans h2
  exact(key _ _ hu1 hv1 h.1).append (key _ _ hu2 hv2 h.2)
 ·rw[q_ hac hx hl hu,q_ hac hx hl' hv,h]
theorem Dp{a v:fP}(hv:Wf a 1 v):∀{us:List fP}{p s:fP},(∀u∈us,Wf a 1 u)->us.flatten=p++(v++s)->∃A w B p' s',us=A++w::B/\p=A.flatten++p'/\w=p'++(v++s')/\s=s'++B.flatten
 |[],p,s,_,h=>by
  have:=aO List.length h;have:=hv.len;simp only[bW,bB,aj]at *;omega
 |w::us,p,s,hu,h=>by
  have hw:=hu w (by simp);rw[aS]at h;by_cases hp:w.length<=p.length
  ·have h1:p=w++p.drop w.length:=by
    have h2:=aO (List.take w.length) h;rw[eZ,cw hp]at h2;conv=>lhs;rw[<-bL w.length p,<-h2]
   rw[h1,aL]at h;have h3:=List.append_cancel_left h;obtain⟨A,w',B,p',s',e1,e2,e3,e4⟩:=Dp hv (fun u hu'=>hu u (by simp[hu'])) h3;exact⟨w::A,w',B,p',s',by rw[e1];rfl,by rw[h1,e2];simp,e3,e4⟩
  ·obtain⟨p2,v2,s2,e1,e2,e3⟩:=hw.place (i:=p.length) gB;rw[e1,aL,aL]at h;obtain⟨rfl,h4⟩:=List.append_inj h gB;obtain⟨rfl,h5⟩:=e3.uniq hv h4;exact⟨[],w,us,p2,s2,rfl,by simp,e1,h5.symm⟩
theorem GW{a ac u v:fP}(hac:tA a ac)(hu:Wf a 1 u)(hv:Wf a 1 v)(h:form a ac u=form a ac v):∀(N:Nat){p q:fP},(p++(u++q)).length<=N->Wf a 1 (p++(u++q))->form a ac (p++(u++q))=form a ac (p++(v++q))
 |0,p,q,hl,hw=>by have:=hw.len;omega
 |N+1,[],q,hl,hw=>by
  obtain⟨_,rfl⟩:=hu.uniq (v:=q) (v':=[]) hw (by simp);simpa using h
 |N+1,x::p,q,hl,hw=>by
  obtain⟨ho,hr⟩:=(Wf.jZ (k:=0)).1 hw;rw[bk]at hr;obtain⟨us,h1,h2,h3⟩:=lP hr;obtain⟨A,w,B,p',q',rfl,rfl,rfl,rfl⟩:=Dp hu h3 h2.symm;have hw1:=h3 (p'++(u++q')) (by simp);have hw2:=Wf.put hu hv hw1;have hlen:(p'++(u++q')).length<=N:=by
   simp only[aj,ai,cg]at hl⊢;omega
  have ih:=GW hac hu hv h N hlen hw1;have e1:x::(A.flatten++p')++(u++(q'++B.flatten))=x::(A++(p'++(u++q'))::B).flatten:=by simp
  have e2:x::(A.flatten++p')++(v++(q'++B.flatten))=x::(A++(p'++(v++q'))::B).flatten:=by simp
  rw[e1,e2];refine Lh hac ho h1 (by rw[<-h1];simp) h3 (fun y hy=>?_) ?_
  ·simp only[aI,bu]at hy;rcases hy with hy|rfl|hy
   ·exact h3 y (by simp[hy])
   ·exact hw2
   ·exact h3 y (by simp[hy])
  ·simp only[aQ,aX,ih]
end Go.Proofs.YthdnkoejpdcnpaaGreat
