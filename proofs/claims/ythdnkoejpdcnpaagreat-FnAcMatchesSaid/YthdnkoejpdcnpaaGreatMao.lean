/- A part of the proof about FnAcMatches (PX, CN, DA, DB, DC, DE, CO). -/
import Derived.Test.YthdnkoejpdcnpaaGreatMaj
import Derived.Test.YthdnkoejpdcnpaaGreatMak
import Derived.Test.YthdnkoejpdcnpaaGreatMal
import Derived.Test.YthdnkoejpdcnpaaGreatMan
set_option linter.all false
namespace Go.Proofs.YthdnkoejpdcnpaaGreat
open Go kJ Tm
theorem yJ{a p t:fN}(ha:iz a=true)(hp:Wf a 1 p)(ht:Wf a 1 t)(hpl:p.length<=60)(htl:t.length<=60):gz True (pH a p t) (vG (Cn a p t vc)):=by
 have hn:∀u∈vc,u.length<=60:=by intro u hu;simp[vc]at hu;subst hu;simp
 unfold pH;rw[show(List.replicate 24 []:Bd)=vc from rfl];refine gz.loop (fun s:Int×Int×Bd=>∃i c:Nat,s.1=(c:Int)/\s.2.1=(i:Int)/\Q8 a p t vc s.2.2 i c) (fun s:Int×Int×Bd=>p.length-s.2.1.toNat)
  ⟨0,0,rfl,rfl,gq,gq,by simp[vc],hn,⟨1,by simpa using hp,by simpa using ht⟩,by simp⟩ ?_
 rintro⟨_,_,b⟩ ⟨i,c,rfl,rfl,h⟩;simp only at h;have hb:=h.hb;simp only[rJ];by_cases hi:i<p.length
 ·have hc:=h.S7 hi;simp only[show(i:Int)<p.length by omega,show ¬(t.length:Int)<=c by omega,bl,bA,aO,show(0:Int)<=i by omega,show(0:Int)<=c by omega,show(c:Int)<t.length by omega,cF,
   av,aI,aq,gH hi,gH hc,jS (n:=(i:Int)+1) gq gq,jS (n:=(c:Int)+1) gq gq]
  by_cases hn:p[i]<0
  ·obtain⟨u,r,e,hu,hl,ho,hm,hk⟩:=h.var hi hn;have hul:=hu.len;have hx: -24<=p[i]:=ho.1;have hlt:(-1-p[i]).toNat<b.length:=by omega
   simp only[show ¬0<=p[i] by omega,bA,av,aI,kY ha (show Small t by show t.length<_;omega) e hu,aa,
    jS (n:= -1-p[i]) gq gq,show 0<= -1-p[i] by omega,show -1-p[i]<24 by omega,cF,aO,hb,show((-1:Int)-p[i]<((24:Nat):Int)) by omega,
    jS (n:=(c:Int)+u.length) gq gq]
   have eg:b.getD (-1-p[i]).toNat default=gK b p[i]:=rfl;rw[eg];by_cases h0:gK b p[i]=[]
   ·rw[ah h0]at hm;simp only[h0,bG,fI,Int.lt_irrefl,bA,av,aI];exact .some ⟨⟨i+1,c+u.length,by simp,by simp,gq,gq,by simpa using hb,F6 h.H8 gq,hk,by rw[hm];rfl⟩,by simp;omega⟩
   ·rw[ay h0]at hm;have hp0:=bQ.2 h0;simp only[show(0:Int)<((gK b p[i]).length:Int) by omega,bl,aO,jA (show Small (gK b p[i]) by show List.length _<_;have:=Bg (n:=p[i]) h.H8;omega),aa];by_cases h1:gK b p[i]=u
    ·rw[ah h1]at hm;simp only[h1,cL,aO];have hset:b.set (-1-p[i]).toNat u=b:=by
      have:b[(-1-p[i]).toNat]=u:=by rw[<-h1];exact(gH hlt).symm
      rw[<-this];exact List.set_getElem_self hlt
     rw[hset];exact .some ⟨⟨i+1,c+u.length,by simp,by simp,gq,gq,hb,h.H8,hk,hm.symm⟩,by simp;omega⟩
    ·rw[ay h1]at hm;have:¬(gK b p[i]==u)=true:=by simpa using h1
     simp only[this,aI,aV];refine .some ?_;simp only[tj,vG,hm]
  ·obtain⟨hc',ho,hm,hk⟩:=h.sym hi hn;simp only[show 0<=p[i] by omega,bl,aO];by_cases e:t[c]=p[i]
   ·rw[ah e]at hm;simp only[e,dQ,av,aI];exact .some ⟨⟨i+1,c+1,by simp,by simp,gq,gq,hb,h.H8,hk e,hm.symm⟩,by simp;omega⟩
   ·rw[ay e]at hm;have:(p[i] != t[c])=true:=by simpa using fun h=>e h.symm
    simp only[this,aO,aV];refine .some ?_;simp only[tj,vG,hm]
 ·have hm:=h.m;rw[bp gq,Ib]at hm;simp only[show ¬(i:Int)<p.length by omega,bA,av,aI,hb,aO];refine gz.inr ?_;refine gz.bind (uL gq h.H8) fun o ho=>.some ?_
  simp only[tj,vG,<-hm];exact⟨trivial,ho.1,ho.2⟩
theorem wg{a:fN}{s:Bd}(ha:iz a=true)(hl:s.length<=24)(hs:∀u∈s,u=[]\/lS a u=true):mL a s=some true:=by
 unfold mL;rw[qv,aa,ah ha,ay (by simp only[az];omega)];have key:=uw (xs:=s) (p:=fun _=>true) (f:=nu a s) (fun i x hi hi2 hx he=>by
  simp only[nu];rw[ah (by simpa using hi),ah gq,jS (n:=(i:Int)+1) gq gq];simp only[aq,he];rcases hs x hx with rfl|ht
  ·rw[ay (by simp)];rfl
  ·have:=(lT.1 ht).2.1;rw[ah (by simp only[az];omega),ah gq,nQ,aa,ah ht];rfl) (by
  simp only[nu];rw[ay (by simp)];rfl)
 rw[key];simp
theorem OS{x o:Bd}(h:Pu x o):∀u∈o,∃i,u=je x i:=fun u hu=>by
 obtain⟨i,hi,rfl⟩:=ck hu;refine⟨i,?_⟩;rw[<-h.2 i];simp[ak,hi]
theorem Mh{a ac:fN}{vals:List fN}(hE:Env a ac vals){g:Bd}(hg:GB a ac vals g)(i:Nat):je (vg g) i=[]\/lS a (je (vg g) i)=true:=by
 unfold je;by_cases hi:i<24
 ·have e:=zu (g:=g) hi;have e':(vg g).getD i []=_:=e;rw[e'];have hb:gK g (-1-(i:Int))=g.getD i []:=by
   unfold gK;rw[show(-1-(-1-(i:Int))).toNat=i by omega]
  by_cases h0:g.getD i []=[]
  ·rw[ah h0,ah (.inr rfl)];exact .inl rfl
  ·rw[ay h0];split
   ·exact .inl rfl
   ·right;have hs:=hg.1.2 (-1-(i:Int)) gq (by rw[hb];exact h0);have hl:=yQ hE hg (x:= -1-(i:Int)) gq (by rw[hb];exact h0);rw[hb]at hs hl;exact lT.2 ⟨hE.ha,hs.1.len,hl,hs.1⟩
 ·left;rw[ah];left;rw[ak,bz (by rw[zw];omega)];rfl
theorem Ak{a ac:fN}{vals:List fN}(hE:Env a ac vals){g o:Bd}(hg:GB a ac vals g)(h:Pu (vg g) o):∀u∈o,u=[]\/lS a u=true:=fun u hu=>by
 obtain⟨i,rfl⟩:=OS h u hu;exact Mh hE hg i
theorem zC{a u:fN}(h:u=[]\/lS a u=true):u.length<=60:=by
 rcases h with rfl|h
 ·simp
 ·exact(lT.1 h).2.2.1
theorem Cb{a ac:fN}{vals:List fN}(hE:Env a ac vals){g o1 o2:Bd}(hg:GB a ac vals g)(h1:Pu (vg g) o1)(h2:Pu (vg g) o2):nP a o1 o2=some true:=by
 have t1:=Ak hE hg h1;have t2:=Ak hE hg h2;unfold nP;rw[wg hE.ha h1.1 t1,aa,ah rfl,wg hE.ha h2.1 t2,aa,ah rfl];have key:=uw (xs:=List.range 24) (p:=fun _=>true) (f:=lU o1 o2) (fun i x hi hi2 hx he=>by
  rw[cc]at hi hi2;simp only[lU];rw[ah (by simp only[az];omega),oU (fun u hu=>zC (t1 u hu)) h1.1 gq,aa,oU (fun u hu=>zC (t2 u hu)) h2.1 gq,aa,h1.2,h2.2,jS (n:=(i:Int)+1) gq gq];rw[jA (by
   show List.length _<_;split
   ·simp
   ·have:=zC (Mh hE hg i);omega),aa,ah (by simp)];rfl) (by
  rw[cc];simp only[lU];rw[ay (by decide)];rfl)
 rw[key];simp
theorem OT{a ac p t:fN}(hp:Wf a 1 p){g o:Bd}(hr:RM a ac p t g0 g)(h:Pu (vg g) o):Tm.sub (Tm.sig o) p=Tm.sub (gK g) p:=
 sub_congr fun x hx h0=>by
  rw[JK h.2 h0];have h24:=(hp.all x hx).1;have hn:=(hr.1.sf x hx h0).ne;have e:=zu (g:=g) (i:=(-1-x).toNat) gq;unfold Tm.sig;have e':gK (vg g) x=gK g x:=by
   unfold gK at hn⊢;have e2:(vg g).getD (-1-x).toNat []=_:=e;rw[e2,ay hn]
  rw[e',ay hn]
theorem FC{a ac p t:fN}{vals:List fN}(hE:Env a ac vals)(hpt:lS a p=true){g o:Bd}(hg:GB a ac vals g)(hr:RM a ac p t g0 g)(h:Pu (vg g) o):
 qg a o p=some (if(Tm.sub (gK g) p).length<=60 then(Tm.sub (gK g) p,true)else([],false)):=by
 have t1:=Ak hE hg h;obtain⟨_,_,hp60,hp⟩:=lT.1 hpt;unfold qg;rw[wg hE.ha h.1 t1,aa,ah rfl,nQ,aa,ah hpt,ug h.1 (fun u hu=>zC (t1 u hu)) gq (fun x hx=>(hp.all x hx).1),aa];unfold AD;rw[OT hp hr h];split<;>rfl
theorem Fy{a ac u t:fN}(hl:ac.length<=1000)(hok:uj a ac=true)(hu:lS a u=true)(ht:lS a t=true)(he:form a ac u=form a ac t):qf a ac u t=some true:=by
 obtain⟨ha,hac⟩:=FY hok;have hs:Small ac:=by show ac.length<_;omega
 obtain⟨_,_,u1,u2⟩:=lT.1 hu;obtain⟨_,_,t1,t2⟩:=lT.1 ht;unfold qf;rw[uD hl,hok,hu,aa,ah (by rfl),uD hl,hok,ht,aa,ah (by rfl),vl hac hs ha u2 u1,aa,vl hac hs ha t2 t1,aa,
  jA (by have:=(jR hac _ (au _) u2).2.1;show List.length _<_;omega),aa,he]
 simp
theorem inst_rm{a ac p t:fN}(hac:tg a ac)(hp:Wf a 1 p){σ:Int->fN}(hσ:∀x∈p,x<0->Wf a 1 (σ x))(he:Tm.sub σ p=t):∃g',RM a ac p (form a ac t) g0 g'/\∀x∈p,x<0->gK g' x=form a ac (σ x):=by
 let G:Bd:=(List.range 24).map fun i:Nat=>if(-1-(i:Int))∈p then form a ac (σ (-1-(i:Int)))else []
 have hG:∀x:Int,x<0->gK G x=if x∈p then form a ac (σ x)else []:=fun x hx=>by
  by_cases h24: -24<=x
  ·unfold gK;show((List.range 24).map fun i:Nat=>if(-1-(i:Int))∈p then form a ac (σ (-1-(i:Int)))else []).getD (-1-x).toNat []=_;rw[ak,bk,dm gq];simp only[aV,Option.getD_some];rw[show(-1-(((-1-x).toNat:Nat):Int))=x by omega]
  ·have hn:x∉p:=fun hm=>h24 (hp.all x hm).1
   rw[ay hn];unfold gK;rw[ak,bz (by show((List.range 24).map _).length<=_;simp;omega)];rfl
 refine⟨G,⟨⟨by show((List.range 24).map _).length=_;simp[g0],fun x _ h=>absurd (BE x) h,fun x hx hn=>by rw[hG x hx,ay hn,BE],fun x hx h0=>by rw[hG x h0,ah hx];exact rT hac (hσ x hx h0)⟩,?_⟩,fun x hx h0=>by rw[hG x h0,ah hx]⟩;have e:Tm.sub (gK G) p=Tm.sub (fun x=>form a ac (σ x)) p:=sub_congr fun x hx h0=>by rw[hG x h0,ah hx]
 rw[e,BA hac p.length (au _) hp hσ,he]
theorem JU{a ac p t:fN}(hac:tg a ac)(hp:lS a p=true)(ht:lS a t=true):gz True (nq a p t) fun r=>r=true->∃g',RM a ac p (form a ac t) g0 g':=by
 obtain⟨ha,_,p1,p2⟩:=lT.1 hp;obtain⟨_,_,t1,t2⟩:=lT.1 ht;unfold nq rA;rw[nQ,aa,ah hp,nQ,aa,ah ht];refine gz.bind (gz.bind (yJ ha p2 t2 p1 t1) fun r hr=>.some hr) fun r hr=>.some fun hb=>?_
 unfold vG at hr;cases hm:Cn a p t vc with
 |none=>rw[hm]at hr;simp only at hr;rw[hr]at hb;cases hb
 |some b=>
  obtain⟨m1,m2,m3,m4,m5⟩:=xS p2 t2 (by simp[vc]) hm;obtain⟨g',h1,_⟩:=inst_rm hac p2 (σ:=gK b) (fun x hx h0=>(m4 x hx h0).elim id fun h=>absurd (IS x) h.2) m1.symm;exact⟨g',h1⟩
def Cu(c0:fN)(i:Int):Prop:=0<=i/\i<=c0.length
theorem Dg(x:Int):0<=xX .i64 x 255/\xX .i64 x 255<=255:=by
 have h:(BitVec.ofInt IntKind.i64.bits x &&& BitVec.ofInt IntKind.i64.bits 255).toNat<=255:=by
  rw[BitVec.toNat_and];exact bN Nat.and_le_right (by decide)
 unfold xX;rw[jS gq gq];omega
theorem yT{c0:fN}{i:Int}(hs:Small c0)(hi:Cu c0 i)(h:Int):gz True (lC c0 i h) fun r=>0<=r.1/\r.1<=255/\Cu c0 r.2.1:=by
 have hs:c0.length<1099511627776:=hs;obtain⟨h1,h2⟩:=hi;unfold lC;refine gz.ite (fun hc=>?_) fun hc=>.some ⟨(Dg _).1,(Dg _).2,h1,h2⟩
 simp only[az]at hc;refine gz.need ⟨h1,hc⟩ (.some ⟨(Dg _).1,(Dg _).2,?_⟩);show Cu c0 (IntKind.i64.wrap (i+1));rw[jS (n:=i+1) gq gq];exact⟨gq,gq⟩
theorem IC{a n:Int}(ha:0<=a)(hn:0<n):0<=a.tmod n/\a.tmod n<n:=⟨Int.tmod_nonneg _ ha,Int.tmod_lt_of_pos _ hn⟩
theorem mQ{c0:fN}{i:Int}(hs:Small c0)(hi:Cu c0 i)(n h:Int):gz True (gL n c0 i h) fun r=>0<=r.1/\(0<n->r.1<n)/\(n<=0->r.1=0)/\Cu c0 r.2.1:=by
 unfold gL;refine gz.ite (fun hc=>?_) fun hc=>?_
 ·simp only[az]at hc;exact .some ⟨eV _,fun h=>by omega,fun _=>rfl,hi⟩
 ·simp only[bT]at hc;refine gz.ite (fun _=>?_) fun _=>?_
  ·refine gz.bind (yT hs hi h) fun r hr=>gz.need gq (.some ?_)
   obtain⟨h1,h2⟩:=IC hr.1 (show 0<n by omega);exact⟨h1,fun _=>h2,fun h=>by omega,hr.2.2⟩
  ·refine gz.bind (yT hs hi h) fun r1 h1=>gz.bind (yT hs h1.2.2 _) fun r2 h2=>gz.bind (yT hs h2.2.2 _) fun r3 h3=>gz.bind (yT hs h3.2.2 _) fun r4 h4=>gz.need gq (.some ?_)
   obtain⟨a1,b1,_⟩:=h1;obtain⟨a2,b2,_⟩:=h2;obtain⟨a3,b3,_⟩:=h3;obtain⟨a4,b4,hc4⟩:=h4;simp only;rw[jS (n:=r1.1*16777216) gq gq,jS (n:=r2.1*65536) gq gq,jS (n:=r3.1*256) gq gq,jS (n:=r1.1*16777216+r2.1*65536) gq gq,
    jS (n:=r1.1*16777216+r2.1*65536+r3.1*256) gq gq,jS (n:=r1.1*16777216+r2.1*65536+r3.1*256+r4.1) gq gq]
   obtain⟨e1,e2⟩:=IC (a:=r1.1*16777216+r2.1*65536+r3.1*256+r4.1) (n:=n) gq gq;exact⟨e1,fun _=>e2,fun h=>by omega,hc4⟩
theorem mo{c0:fN}{i:Int}(hs:Small c0)(hi:Cu c0 i)(n h:Int):gz True (gR n c0 i h) fun r=>Cu c0 r.2.1:=by
 unfold gR;exact gz.bind (mQ hs hi n h) fun r hr=>.some hr.2.2.2
theorem Dy{c0:fN}{i:Int}(hs:Small c0)(hi:Cu c0 i){lo hi':Int}(h:Int)(h1: -100<=lo)(h2:lo<=hi')(h3:hi'<=100):gz True (lE lo hi' c0 i h) fun r=>lo<=r.1/\r.1<=hi'/\Cu c0 r.2.1:=by
 unfold lE;rw[jS (n:=hi'-lo) gq gq,jS (n:=hi'-lo+1) gq gq];refine gz.bind (mQ hs hi _ h) fun r hr=>.some ?_
 have:=hr.2.1 gq;have:=hr.1;simp only;rw[jS (n:=lo+r.1) gq gq];exact⟨gq,gq,hr.2.2.2⟩
theorem R5{code:fN}(hs:Small code):gz True (rB code) fun r=>r.1=code/\r.2.1=0:=by
 have hs:code.length<1099511627776:=hs;unfold rB;refine gz.loop (fun q:Int×Int=>∃i:Nat,q.2=i/\i<=code.length) (fun q:Int×Int=>code.length-q.2.toNat) ⟨0,rfl,gq⟩ ?_;rintro⟨g,_⟩ ⟨i,rfl,h1⟩;simp only[tC];by_cases hi:i<code.length
 ·simp only[show(i:Int)<code.length by omega,bl,aO,show(0:Int)<=i by omega,cF,jS (n:=(i:Int)+1) gq gq];exact .some ⟨⟨i+1,by simp,gq⟩,by simp;omega⟩
 ·simp only[show ¬(i:Int)<code.length by omega,bA,av,aI,aV];exact .some ⟨rfl,rfl⟩
theorem ME{c0:fN}(hs:Small c0){f:Int×Int×Int×fN->Option (gi⊕fP)}
 (hf:f=fun q=>if(decide (0<q.1))=true then(gL 3 c0 q.2.1 q.2.2.1).bind fun r_2=>if(q.2.2.2.length+1)*8<=140737488355328 then some (.inl ((IntKind.i64.wrap (q.1-1)),r_2.2.1,r_2.2.2,(q.2.2.2++[r_2.1])))else none
  else Option.map Sum.inr (some (q.2.2.2,q.2.1,q.2.2.1))) {n i h:Int} (h0:0<=n) (h4:n<4) (hi:Cu c0 i):gz True (gF f (n,i,h,[0])) fun r=>(iz r.1=true/\r.1.length<=4)/\Cu c0 r.2.1:=by
 refine gz.loop (fun q:Int×Int×Int×fN=>0<=q.1/\q.1<4/\Cu c0 q.2.1/\1<=q.2.2.2.length/\(q.2.2.2.length:Int)+q.1<=4/\∀x∈q.2.2.2,0<=x/\x<=3) (fun q:Int×Int×Int×fN=>q.1.toNat) ⟨h0,h4,hi,by simp,by simp;omega,by simp⟩ ?_;rintro⟨n,i,h,sig⟩ ⟨h1,h2,h3,h5,h6,h7⟩;simp only at h1 h2 h3 h5 h6 h7;subst hf;refine gz.ite (fun hc=>?_) fun hc=>?_
 ·simp only[az]at hc;refine gz.bind (mQ hs h3 3 h) fun r hr=>gz.need (by simp only;omega) (.some ?_)
  have:=hr.2.1 gq;simp only[tj];rw[jS (n:=n-1) gq gq];refine⟨⟨gq,gq,hr.2.2.2,by simp,by simp;omega,fun x hx=>?_⟩,gq⟩;rcases aM.1 hx with hx|hx
  ·exact h7 x hx
  ·simp at hx;subst hx;have:=hr.1;omega
 ·refine gz.inr (.some ?_);simp only[tj];exact⟨⟨oO.2 ⟨h5,gq,h7⟩,gq⟩,h3⟩
theorem Gw{c0:fN}{i:Int}(hs:Small c0)(hi:Cu c0 i)(h:Int):gz True (nT c0 i h) fun r=>(iz r.1=true/\r.1.length<=4)/\Cu c0 r.2.1:=by
 unfold nT;refine gz.bind (mo hs hi 4 h) fun r hr=>gz.ite (fun _=>?_) fun _=>.some ⟨⟨show iz [2,1,0]=true by decide,show [2,1,0].length<=4 by decide⟩,hr⟩
 refine gz.bind (mQ hs hr 4 _) fun r1 h1=>?_
 exact ME hs (by funext ⟨a,b,c,d⟩;rfl) h1.1 (h1.2.1 gq) h1.2.2.2
def tb:Nat->Nat
 |0=>1
 |d+1=>1+3*tb d
theorem Hj(d:Nat):1<=tb d:=by cases d<;>simp[tb]
theorem La{a:fN}{f:Nat}(hf:f<a.length)(h0:a.getD f default=0):Wf a 1 [(f:Int)]:=by
 refine Wf.kE.2 ⟨⟨gq,gq⟩,?_⟩;have:mV a (f:Int)=0:=by
  simp only[mV,show ¬(f:Int)<0 by omega,aI,aq];rw[show a.getD f 0=a.getD f default from rfl,h0];rfl
 rw[this];exact Wf.nil
theorem Hs{a:fN}{x:Int}(h1: -24<=x)(h2:x<0):Wf a 1 [x]:=by
 refine Wf.kE.2 ⟨⟨h1,gq⟩,?_⟩;have:mV a x=0:=by simp[mV,h2]
 rw[this];exact Wf.nil
def V3(t:fN):Prop:=∀x∈t, -3<=x
theorem Hr{x:Int}(h: -3<=x):V3 [x]:=fun y hy=>by rw[bq]at hy;omega
theorem V3.app{s t:fN}(hs:V3 s)(ht:V3 t):V3 (s++t):=fun x hx=>(aM.1 hx).elim (hs x) (ht x)
theorem V3.cons{x:Int}{t:fN}(hx: -3<=x)(ht:V3 t):V3 (x::t):=fun y hy=>by
 rcases bw.1 hy with rfl|h
 ·exact hx
 ·exact ht y h
theorem vP{a c0:fN}(ha:iz a=true){i h:Int}(hi:Cu c0 i){d:Nat}{f:Int->Option gm}
 (hf:f=fun f=>if(decide (0<=f))=true then if 0<=f/\f<(a.length:Int)then if((a.getD f.toNat default)==0)=true then Option.map Sum.inr (some ([f],i,h))else some (.inl (IntKind.i64.wrap (f-1)))else none else Option.map Sum.inr (some ([(-1)],i,h))):
 ∀t,gz t (gF f (IntKind.i64.wrap ((a.length:Int)-1))) fun r=>((Wf a 1 r.1/\r.1.length<=tb d)/\V3 r.1)/\Cu c0 r.2.1:=fun t=>by
 have hl:=(oO.1 ha).2.1;rw[jS (n:=(a.length:Int)-1) gq gq];refine gz.loop (fun q:Int=> -1<=q/\q<a.length) (fun q:Int=>(q+1).toNat) ⟨gq,gq⟩ ?_;intro q hq;subst hf;refine gz.ite (fun hc=>?_) fun hc=>?_
 ·simp only[az]at hc;refine gz.need ⟨hc,hq.2⟩ (gz.ite (fun h0=>gz.inr (.some ?_)) fun h0=>.some ?_)
  ·have:=La (a:=a) (f:=q.toNat) gq (by simpa using h0);rw[show((q.toNat:Nat):Int)=q by omega]at this;exact⟨⟨⟨this,by have:=Hj d;simp;omega⟩,Hr gq⟩,hi⟩
  ·simp only[tj];rw[jS (n:=q-1) gq gq];omega
 ·exact gz.inr (.some ⟨⟨⟨Hs gq gq,by have:=Hj d;simp;omega⟩,Hr gq⟩,hi⟩)
def Eg(a c0:fN)(d:Nat)(r:fN×Int×Int):Prop:=((Wf a 1 r.1/\r.1.length<=tb d)/\V3 r.1)/\Cu c0 r.2.1
theorem zK{a c0:fN}(hs:Small c0){vars i h:Int}(hv:0<vars)(hv3:vars<=3)(hi:Cu c0 i)(d:Nat){t:Prop}:
 gz t ((gL vars c0 i h).bind fun r_1=>some ([(IntKind.i64.wrap ((-1)-r_1.1))],r_1.2.1,r_1.2.2)) (Eg a c0 d):=by
 refine gz.bind ((mQ hs hi vars h).weak fun _=>trivial) fun r hr=>.some ?_
 have:=hr.1;have:=hr.2.1 hv;rw[jS (n:= -1-r.1) gq gq];exact⟨⟨⟨Hs gq gq,by have:=Hj d;simp;omega⟩,Hr gq⟩,hr.2.2.2⟩
theorem FG{a c0:fN}{d:Nat}{k:Int}{us:fN}{f:Int}(hf:0<=f/\f<a.length)(hk:a.getD f.toNat default=k){n:Nat}(hu:Wf a n us)(hn:(n:Int)=k):Wf a 1 (f::us):=by
 refine Wf.kE.2 ⟨⟨gq,hf.2⟩,?_⟩;have:mV a f=n:=by
  simp only[mV,show ¬f<0 by omega,aI];rw[show a.getD f.toNat 0=a.getD f.toNat default from rfl,hk];omega
 rw[this,aX];exact hu
theorem AB{a c0:fN}(ha:iz a=true)(hs:Small c0){vars:Int}(hv:0<vars)(hv3:vars<=3):∀(fu d:Nat){depth i h:Int},depth<=d+1-> -10<=depth->d<=3->Cu c0 i->
 gz (d+1<=fu) (jQ fu a depth vars c0 i h) (Eg a c0 d)
 |0,d,depth,i,h,_,_,_,_=>⟨fun _ h=>by simp[jQ]at h,fun h=>by omega⟩
 |fu+1,d,depth,i,h,hd,hd0,hd3,hi=>by
  have hal:=oO.1 ha;unfold jQ;refine gz.ite (fun hc=>?_) fun hc=>?_
  ·refine gz.ite (fun _=>?_) fun hx=>absurd hx (by simpa using hv)
   refine gz.bind ((mo hs hi 2 h).weak fun _=>trivial) fun r hr=>gz.ite (fun _=>zK hs hv hv3 hr d) fun _=>?_
   exact vP ha hr (by funext f;rfl) _
  ·simp only[bT]at hc;refine gz.bind ((mo hs hi 4 h).weak fun _=>trivial) fun r hr=>gz.ite (fun _=>?_) fun _=>?_
   ·refine gz.ite (fun _=>?_) fun hx=>absurd hx (by simpa using hv)
    refine gz.bind ((mo hs hr 2 _).weak fun _=>trivial) fun r3 h3=>gz.ite (fun _=>zK hs hv hv3 h3 d) fun _=>?_
    exact vP ha h3 (by funext f;rfl) _
   ·refine gz.bind ((mQ hs hr (a.length:Int) _).weak fun _=>trivial) fun r5 h5=>?_
    have hf:0<=r5.1/\r5.1<(a.length:Int):=⟨h5.1,h5.2.1 gq⟩;refine gz.need hf ?_;cases d with
    |zero=>omega
    |succ d=>
     have hk:=hal.2.2 _ (qi (show r5.1.toNat<a.length by omega));generalize hkk:a.getD r5.1.toNat default=kk at hk;refine gz.loop (fun q:fN×Int×Int×Int=>∃(j:Nat)(us:fN),q.1=r5.1::us/\Wf a j us/\us.length<=j*tb d/\q.2.1=kk-j/\(j:Int)<=kk/\Cu c0 q.2.2.1/\V3 us) (fun q:fN×Int×Int×Int=>q.2.1.toNat)
      ⟨0,[],rfl,Wf.nil,by simp,by simp only;omega,gq,h5.2.2.2,fun x hx=>by cases hx⟩ ?_
     rintro⟨out,k,i2,g⟩ ⟨j,us,rfl,h6,h7,rfl,h8,h9,hv9⟩;simp only at h9;simp only[pq];have htb:tb d<=40:=by
      have:d<=2:=by omega
      match d,this with
      |0,_=>decide
      |1,_=>decide
      |2,_=>decide
     have hj3:j<=3:=by omega
     have hjt:j*tb d<=3*40:=er hj3 htb;refine gz.ite (fun hc2=>?_) fun hc2=>?_
     ·simp only[az]at hc2;rw[jS (n:=depth-1) gq gq];refine gz.bind ((AB ha hs hv hv3 fu d (depth:=depth-1) (i:=i2) (h:=g) gq gq gq h9).weak fun h=>by omega) fun r6 hr6=>?_
      obtain⟨⟨⟨e1,e2⟩,e4⟩,e3⟩:=hr6;refine gz.need (by simp only[ai];omega) (.some ?_);simp only[tj];rw[jS (n:=kk-j-1) gq gq];refine⟨⟨j+1,us++r6.1,by simp,h6.app e1,?_,gq,gq,e3,hv9.app e4⟩,gq⟩;rw[aj,bC,Nat.one_mul];omega
     ·simp only[bT]at hc2;refine gz.inr (.some ?_);simp only[tj];refine⟨⟨⟨FG (c0:=c0) (d:=d) hf hkk h6 gq,?_⟩,hv9.cons gq⟩,h9⟩;simp only[ai,tb];have:=cn (tb d) hj3;omega
theorem tT{a c0:fN}(ha:iz a=true)(hs:Small c0){vars:Int}(hv:0<vars)(hv3:vars<=3)(d:Nat){depth i:Int}(h:Int)(h1:depth<=d+1)(h2: -10<=depth)(h3:d<=3)(hi:Cu c0 i):
 gz True (jj a depth vars c0 i h) (Eg a c0 d):=by
 unfold jj;exact gz.lim (d+1) fun n=>AB ha hs hv hv3 n d h1 h2 h3 hi
theorem Dr{a c0:fN}(ha:iz a=true)(hs:Small c0){vars:Int}(hv:0<vars)(hv3:vars<=3)(fu:Nat)(d:Nat){depth i h:Int}(hd:depth<=d+1)(hd0: -10<=depth)(hd3:d<=3)(hi:Cu c0 i):
 gz (1<=fu) (jB fu a depth vars c0 i h) (Eg a c0 d):=by
 have hal:=oO.1 ha;cases fu with
 |zero=>exact⟨fun _ h=>by simp[jB]at h,fun h=>by omega⟩
 |succ fu=>
  unfold jB;refine gz.ite (fun hc=>?_) fun hc=>?_
  ·refine gz.ite (fun _=>?_) fun hx=>absurd hx (by simpa using hv)
   refine gz.bind ((mo hs hi 2 h).weak fun _=>trivial) fun r hr=>gz.ite (fun _=>zK hs hv hv3 hr d) fun _=>?_
   exact vP ha hr (by funext f;rfl) _
  ·simp only[bT]at hc;refine gz.bind ((mo hs hi 4 h).weak fun _=>trivial) fun r hr=>gz.ite (fun _=>?_) fun _=>?_
   ·refine gz.ite (fun _=>?_) fun hx=>absurd hx (by simpa using hv)
    refine gz.bind ((mo hs hr 2 _).weak fun _=>trivial) fun r3 h3=>gz.ite (fun _=>zK hs hv hv3 h3 d) fun _=>?_
    exact vP ha h3 (by funext f;rfl) _
   ·refine gz.bind ((mQ hs hr (a.length:Int) _).weak fun _=>trivial) fun r5 h5=>?_
    have hf:0<=r5.1/\r5.1<(a.length:Int):=⟨h5.1,h5.2.1 gq⟩;refine gz.need hf ?_;cases d with
    |zero=>omega
    |succ d=>
     have hk:=hal.2.2 _ (qi (show r5.1.toNat<a.length by omega));generalize hkk:a.getD r5.1.toNat default=kk at hk;refine gz.loop (fun q:Int×Int×Int×fN=>∃(j:Nat)(us:fN),q.2.2.2=r5.1::us/\Wf a j us/\us.length<=j*tb d/\q.1=kk-j/\(j:Int)<=kk/\Cu c0 q.2.1/\V3 us) (fun q:Int×Int×Int×fN=>q.1.toNat)
      ⟨0,[],rfl,Wf.nil,by simp,by simp only;omega,gq,h5.2.2.2,fun x hx=>by cases hx⟩ ?_
     rintro⟨k,i2,g,out⟩ ⟨j,us,h10,h6,h7,rfl,h8,h9,hv9⟩;simp only at h9 h10;subst h10;simp only[nU];have htb:tb d<=40:=by
      have:d<=2:=by omega
      match d,this with
      |0,_=>decide
      |1,_=>decide
      |2,_=>decide
     have hj3:j<=3:=by omega
     have hjt:j*tb d<=3*40:=er hj3 htb;refine gz.ite (fun hc2=>?_) fun hc2=>?_
     ·simp only[az]at hc2;rw[jS (n:=depth-1) gq gq];refine gz.bind ((tT ha hs hv hv3 d (depth:=depth-1) (i:=i2) g gq gq gq h9).weak fun _=>trivial) fun r6 hr6=>?_
      obtain⟨⟨⟨e1,e2⟩,e4⟩,e3⟩:=hr6;refine gz.need (by simp only[ai];omega) (.some ?_);simp only[tj];rw[jS (n:=kk-j-1) gq gq];refine⟨⟨j+1,us++r6.1,by simp,h6.app e1,?_,gq,gq,e3,hv9.app e4⟩,gq⟩;rw[aj,bC,Nat.one_mul];omega
     ·simp only[bT]at hc2;refine gz.inr (.some ?_);simp only[tj];refine⟨⟨⟨FG (c0:=c0) (d:=d) hf hkk h6 gq,?_⟩,hv9.cons gq⟩,h9⟩;simp only[ai,tb];have:=cn (tb d) hj3;omega
theorem Cy{a c0:fN}(ha:iz a=true)(hs:Small c0){vars:Int}(hv:0<vars)(hv3:vars<=3)(d:Nat){depth i:Int}(h:Int)(h1:depth<=d+1)(h2: -10<=depth)(h3:d<=3)(hi:Cu c0 i):
 gz True (lD a depth vars c0 i h) (Eg a c0 d):=by
 unfold lD;exact gz.lim 1 fun n=>Dr ha hs hv hv3 n d h1 h2 h3 hi
def D3(t:fN):Prop:=∀x∈t, -3<=x\/x< -24
theorem V3.d3{t:fN}(h:V3 t):D3 t:=fun x hx=>.inl (h x hx)
theorem D3.app{t:fN}{x:Int}(h:D3 t)(hx: -3<=x\/x< -24):D3 (t++[x]):=fun y hy=>by
 rcases aM.1 hy with hy|hy
 ·exact h y hy
 ·rw[bq]at hy;rw[hy];exact hx
theorem D3.set{t:fN}{x:Int}(h:D3 t)(hx: -3<=x\/x< -24)(i:Nat):D3 (t.set i x):=fun y hy=>by
 rcases ez hy with hy|rfl
 ·exact h y hy
 ·exact hx
theorem Rr{x:Int}(hx: -3<=x\/x< -24):D3 [x]:=fun y hy=>by rw[bq]at hy;rw[hy];exact hx
theorem Ih{c0:fN}{i:Int}(hs:Small c0)(hi:Cu c0 i)(h:Int):gz True (pQ c0 i h) fun r=>(-3<=r.1\/r.1< -24)/\Cu c0 r.2.1:=by
 unfold pQ;refine gz.bind (mQ hs hi 10 h) fun r hr=>?_
 have h1:=hr.1;have h2:=hr.2.1 gq;refine gz.need ⟨h1,h2⟩ (.some ⟨?_,hr.2.2.2⟩);have key:∀n:Nat,n<10->(-3<=([(-1),0,1,2147483648,(-2147483648),1099511627776,4611686018427387904,(-4611686018427387904),9223372036854775807,(-9223372036854775808)]:fN).getD n default\/([(-1),0,1,2147483648,(-2147483648),1099511627776,4611686018427387904,(-4611686018427387904),9223372036854775807,(-9223372036854775808)]:fN).getD n default< -24):=by decide
 exact key r.1.toNat gq
theorem L8{c0:fN}{i:Int}(hs:Small c0)(hi:Cu c0 i){most:Int}(h1:0<=most)(h2:most<=1000)(h:Int):gz True (pP most c0 i h) fun r=>Cu c0 r.2.1:=by
 unfold pP;refine gz.bind (mo hs hi 10 h) fun r hr=>gz.ite (fun _=>?_) fun _=>?_
 ·refine gz.bind (Ih hs hr _) fun r1 hr1=>gz.bind (mQ hs hr1.2 4 _) fun r2 hr2=>gz.need ⟨hr2.1,hr2.2.1 gq⟩ (.some hr2.2.2.2)
 ·refine gz.bind (mo hs hr 2 _) fun r3 hr3=>gz.ite (fun _=>?_) fun _=>?_
  ·unfold tQ;refine gz.bind (P:=fun x=>x=most\/x=4) (gz.ite (fun _=>.some (.inl rfl)) fun _=>.some (.inr rfl)) fun r4 hr4=>?_
   exact gz.bind (mQ hs hr3 _ _) fun r5 hr5=>.some hr5.2.2.2
  ·exact gz.bind (mQ hs hr3 _ _) fun r5 hr5=>.some hr5.2.2.2
theorem EH{a c0:fN}(hs:Small c0){i:Int}(h:Int)(hi:Cu c0 i):gz True (nS a c0 i h) fun r=>(r.1.length<=60/\D3 r.1)/\Cu c0 r.2.1:=by
 have dflt:∀g,gz True ((lE (-2) 2 c0 i g).bind fun r=>some ([r.1],r.2.1,r.2.2)) fun r=>(r.1.length<=60/\D3 r.1)/\Cu c0 r.2.1:=fun g=>
  gz.bind (Dy hs hi g gq gq gq) fun r hr=>.some ⟨⟨by simp,Rr (.inl gq)⟩,hr.2.2⟩
 have tb3:tb 3=40:=by decide
 unfold nS;refine gz.ite (fun _=>dflt h) fun _=>?_
 rw[qv,aa];refine gz.ite (fun ha=>?_) fun _=>dflt h
 refine gz.bind (mQ hs hi 4 h) fun r2 h2=>?_
 have:=h2.1;have:=h2.2.1 gq;rw[jS (n:=1+r2.1) gq gq];refine gz.bind (Cy ha hs (vars:=3) gq gq 3 _ gq gq gq h2.2.2.2) fun r3 h3=>?_
 obtain⟨⟨⟨w1,l2⟩,v3⟩,c3⟩:=h3;have l1:=w1.len;have d3:=v3.d3;refine gz.bind (mo hs c3 12 _) fun r4 h4=>gz.ite (fun _=>?_) fun _=>.some ⟨⟨by simp only;omega,d3⟩,h4⟩
 refine gz.bind (mQ hs h4 4 _) fun r5 h5=>?_
 refine gz.ite (fun _=>?_) fun _=>gz.ite (fun _=>?_) fun _=>gz.ite (fun _=>?_) fun _=>gz.ite (fun _=>?_) fun _=>.some ⟨⟨by simp only;omega,d3⟩,h5.2.2.2⟩
 ·exact gz.bind (Dy hs h5.2.2.2 _ gq gq gq) fun r6 h6=>gz.need gq (.some ⟨⟨by simp;omega,d3.app (.inl gq)⟩,h6.2.2⟩)
 ·refine gz.bind (mQ hs h5.2.2.2 (r3.1.length:Int) _) fun r7 h7=>gz.bind (Dy hs h7.2.2.2 _ gq gq gq) fun r8 h8=>gz.need ⟨h7.1,h7.2.1 gq⟩ (.some ⟨⟨by simp;omega,d3.set (.inl gq) _⟩,h8.2.2⟩)
 ·exact gz.need gq (.some ⟨⟨by simp;omega,fun x hx=>d3 x (dY _ _ hx)⟩,h5.2.2.2⟩)
 ·exact gz.bind (Ih hs h5.2.2.2 _) fun r9 h9=>gz.need gq (.some ⟨⟨by simp;omega,d3.app h9.1⟩,h9.2⟩)
theorem Dq{c0:fN}{i:Int}(hs:Small c0)(hi:Cu c0 i)(h:Int):gz True (nA c0 i h) fun r=>(iz r.1=true/\r.2.1.length<=10)/\Cu c0 r.2.2.1:=by
 unfold nA;refine gz.bind (mo hs hi 4 h) fun r hr=>gz.ite (fun _=>?_) fun _=>?_
 ·refine gz.bind (Gw hs hr _) fun r1 hr1=>?_
  obtain⟨⟨s1,s2⟩,c1⟩:=hr1;refine gz.loop (fun q:fN×Int×Int×Int=>∃j:Nat,j<=r1.1.length/\q.2.1=j/\q.1.length<=j/\Cu c0 q.2.2.1) (fun q:fN×Int×Int×Int=>r1.1.length-q.2.1.toNat) ⟨0,gq,rfl,by simp,c1⟩ ?_;rintro⟨ac,_,c,c'⟩ ⟨j,h1,rfl,h2,h3⟩;simp only at h2 h3;simp only[pE];by_cases hj:j<r1.1.length
  ·rw[ah (by simpa using hj),ah gq,jS (n:=(j:Int)+1) gq gq];refine gz.ite (fun _=>?_) fun _=>.some ⟨⟨j+1,gq,by simp,by simp only[];omega,h3⟩,by simp only[];omega⟩
   refine gz.bind (mo hs h3 5 _) fun r2 hr2=>gz.ite (fun _=>.some ⟨⟨j+1,gq,by simp,by simp only[];omega,hr2⟩,by simp only[];omega⟩) fun _=>gz.need gq (.some ⟨⟨j+1,gq,by simp,by simp only[aj,bJ];omega,hr2⟩,by simp only[];omega⟩)
  ·rw[ay (by simp only[az];omega)];refine gz.inr (gz.bind (mo hs h3 15 _) fun r3 hr3=>gz.ite (fun _=>?_) fun _=>.some ⟨⟨s1,by simp only[];omega⟩,hr3⟩);exact gz.bind (L8 hs hr3 gq gq _) fun r4 hr4=>gz.need gq (.some ⟨⟨s1,by simp only[aj,bJ];omega⟩,hr4⟩)
 ·refine gz.loop (fun q:fN×Int×Int×Int=>∃j:Nat,j<=4/\q.2.1=j/\q.1.length<=j/\Cu c0 q.2.2.1) (fun q:fN×Int×Int×Int=>4-q.2.1.toNat) ⟨0,gq,rfl,by simp,hr⟩ ?_;rintro⟨ac,_,c,c'⟩ ⟨j,h1,rfl,h2,h3⟩;simp only at h2 h3;simp only[pF];by_cases hj:j<4
  ·rw[ah (by simp only[az];omega),ah gq,jS (n:=(j:Int)+1) gq gq];refine gz.ite (fun _=>?_) fun _=>.some ⟨⟨j+1,gq,by simp,by simp only[];omega,h3⟩,by simp only[];omega⟩
   refine gz.bind (mo hs h3 5 _) fun r2 hr2=>gz.ite (fun _=>.some ⟨⟨j+1,gq,by simp,by simp only[];omega,hr2⟩,by simp only[];omega⟩) fun _=>gz.need gq (.some ⟨⟨j+1,gq,by simp,by simp only[aj,bJ];omega,hr2⟩,by simp only[];omega⟩)
  ·rw[ay (by simp only[az];omega)];have s1:iz [2,0,1,0]=true:=by decide
   refine gz.inr (gz.bind (mo hs h3 15 _) fun r3 hr3=>gz.ite (fun _=>?_) fun _=>.some ⟨⟨s1,by simp only[];omega⟩,hr3⟩);exact gz.bind (L8 hs hr3 gq gq _) fun r4 hr4=>gz.need gq (.some ⟨⟨s1,by simp only[aj,bJ];omega⟩,hr4⟩)
theorem yd{a c0:fN}(ha:iz a=true)(hs:Small c0){i:Int}(h:Int)(hi:Cu c0 i):gz True (lq a c0 i h) fun r=>(r.1.length<=60/\D3 r.1)/\Cu c0 r.2.1:=by
 unfold lq;have tb3:tb 3=40:=by decide
 refine gz.bind (mo hs hi 15 h) fun r hr=>gz.ite (fun _=>?_) fun _=>?_
 ·exact gz.bind (EH hs _ hr) fun r1 hr1=>.some hr1
 ·refine gz.bind (mQ hs hr 4 _) fun r2 h2=>?_
  have:=h2.1;have:=h2.2.1 gq;rw[jS (n:=1+r2.1) gq gq];refine gz.bind (tT ha hs (vars:=2) gq gq 3 _ gq gq gq h2.2.2.2) fun r3 h3=>.some ?_
  obtain⟨⟨⟨w1,l2⟩,v3⟩,c3⟩:=h3;exact⟨⟨gq,v3.d3⟩,c3⟩
theorem sU{xs:List fN}{x:Int}{γ:Type}{c:γ}{F:fN×Int->Option (fT⊕(fN×γ))}
 (h1:∀(out:fN)(j:Nat),j<xs.length->xs.length<=1000->(out.length+(xs.getD j default).length)*8<=140737488355328->F (out,(j:Int))=some (.inl (out++xs.getD j default,(j:Int)+1)))
 (h2:∀out,F (out,(xs.length:Int))=some (.inr (out,c))) (hl:xs.flatten.length<=1000) (hn:xs.length<=1000):gF F ([x],0)=some (x::xs.flatten,c):=by
 refine gz.eq (gz.loop (fun q:fN×Int=>∃j:Nat,j<=xs.length/\q.2=j/\q.1=x::(xs.take j).flatten) (fun q:fN×Int=>xs.length-q.2.toNat) ⟨0,gq,rfl,by simp⟩ ?_);rintro⟨_,_⟩ ⟨j,h3,rfl,rfl⟩;by_cases hj:j<xs.length
 ·have hf:=rM (us:=xs) (j:=j);have hle:=jG (aC hj);rw[h1 _ j hj hn (by rw[gH hj];simp only[ai];omega)];refine .some ⟨⟨j+1,gq,by simp,?_⟩,by simp only[];omega⟩;simp only[];rw[gH hj,aJ hj,bM,dR];rfl
 ·obtain rfl:j=xs.length:=by omega
  rw[h2];refine .some ?_;simp only[tj];rw[bh]
def Gd(a:fN)(x:Int)(L:Nat)(ws:List fN):Prop:=ws.length=mV a x/\(∀w∈ws,Wf a 1 w)/\ws.flatten.length+1=L
theorem PF{a:fN}{x:Int}{L:Nat}{ws:List fN}(ho:wD a x)(h:Gd a x L ws):Wf a 1 (x::ws.flatten)/\(x::ws.flatten).length=L:=by
 refine⟨Wf.kE.2 ⟨ho,?_⟩,by simp only[ai];exact h.2.2⟩;rw[aX,<-h.1];exact zL h.2.1
theorem Mp{a c0 t:fN}(ha:iz a=true)(hs:Small c0){x:Int}(ho:wD a x)(h2:mV a x=2)(h0:0<=x)(htx:t.getD 0 default=x)(ht0:0<t.length){L:Nat}(hL:L<=60){ws:List fN}(hw:Gd a x L ws){i h:Int}(hi:Cu c0 i)
 {L1:Bool×Int×Int->fN×Int->Option (fT⊕fP)} {L2:fN×Int->Option (fT⊕fP)}
 (e1:∀r:Bool×Int×Int,gF (L1 r) ([x],0)=some (x::ws.flatten,r.2.1,r.2.2)) (e2:gF L2 ([x],0)=some (x::ws.flatten,i,h)):
 gz True (if 0<=0/\0<(ws.length:Int)then
  if 0<=0/\0<((ws.getD 0 default).length:Int)then
   if 0<=0/\0<(t.length:Int)then
    if(((ws.getD 0 default).getD 0 default)==(t.getD 0 default))=true then
     (gR 2 c0 i h).bind fun r_6=>
     if r_6.1=true then
      if 0<=0/\0<(ws.length:Int)then
       (jg a (ws.getD 0 default) 0).bind fun r_7=>
       if 0<=0/\0<(ws.length:Int)then
        if 0<=0/\0<(r_7.length:Int)then
         (iQ a (ws.getD 0 default) (r_7.getD 0 default)).bind fun r_8=>
         if 0<=0/\0<(ws.length:Int)then
          if 0<=1/\1<(r_7.length:Int)then
           (iQ a (ws.getD 0 default) (r_7.getD 1 default)).bind fun r_9=>
           if 0<=0/\0<(t.length:Int)then
            if(1+r_9.length)*8<=140737488355328 then
             if 0<=1/\1<(ws.length:Int)then
              if(([(t.getD 0 default)]++r_9).length+(ws.getD 1 default).length)*8<=140737488355328 then
               if(1+r_8.length)*8<=140737488355328 then
                if(([(t.getD 0 default)]++r_8).length+(([(t.getD 0 default)]++r_9)++(ws.getD 1 default)).length)*8<=140737488355328 then
                 some ((([(t.getD 0 default)]++r_8)++(([(t.getD 0 default)]++r_9)++(ws.getD 1 default))),r_6.2.1,r_6.2.2)
                else none
               else none
              else none
             else none
            else none
           else none
          else none
         else none
        else none
       else none
      else none
     else
      gF (L1 r_6) ([(t.getD 0 default)],0)
    else
     gF L2 ([(t.getD 0 default)],0)
   else none
  else none
 else none) fun r=>(Wf a 1 r.1/\r.1.length=L)/\Cu c0 r.2.1:=by
 have hg:=PF ho hw;obtain⟨k1,k2,k3⟩:=hw;rw[h2]at k1;obtain⟨u,v,rfl⟩:=oI k1;have hu:=k2 u (by simp);have hv:=k2 v (by simp);simp only[aR,bY,bf,aj]at k3;obtain⟨y,r,rfl,hoy,hr⟩:=Wf.pos hu;have g0:((y::r)::v::([]:List fN)).getD 0 default=y::r:=rfl;have g1:((y::r)::v::([]:List fN)).getD 1 default=v:=rfl;have gl:(((y::r)::v::([]:List fN)).length:Int)=2:=rfl;have hyl:(y::r).length=r.length+1:=rfl;have gy:(y::r).getD 0 default=y:=rfl;rw[gl,g0,g1,htx,gy];refine gz.need ⟨gq,gq⟩ (gz.need ⟨gq,gq⟩ (gz.need ⟨gq,gq⟩ (gz.ite (fun hc=>?_) fun _=>?_)))
 ·have hyx:y=x:=by simpa using hc
  subst hyx;refine gz.bind (mo hs hi 2 h) fun r6 h6=>gz.ite (fun _=>?_) fun _=>?_
  ·rw[aX,h2]at hr;obtain⟨us,q1,rfl,q3⟩:=kg hr;obtain⟨p,q,rfl⟩:=oI q1;have hp:=q3 p (by simp);have hq:=q3 q (by simp);have hl60:(y::[p,q].flatten).length<=60:=by simp only[ai]at k3⊢;omega
   have ea:=uc (r:=[]) (i:=0) ha hl60 (by simp) ho (by rw[h2];rfl) q3;rw[show((0:Nat):Int)=0 from rfl]at ea;have pl:=oH [p,q] ((0:Int)+1);have pg0:=oG [p,q] ((0:Int)+1) 0 (by simp);have pg1:=oG [p,q] ((0:Int)+1) 1 (by simp);have hd0:=mG (t:=y::[p,q].flatten) (r:=[]) (x:=y) (i:=0) (us:=[p,q]) (j:=0) (by simp) (by simp);have hd1:=mG (t:=y::[p,q].flatten) (r:=[]) (x:=y) (i:=0) (us:=[p,q]) (j:=1) (by simp) (by simp);have sm:Small (y::[p,q].flatten):=by show List.length _<_;omega
   have s0:=kY ha sm hd0 hp;have s1:=kY ha sm hd1 hq;have hf:[p,q].flatten.length=p.length+q.length:=by simp
   have hk:p.length+q.length+1+v.length+1=L:=by rw[<-k3,ai,hf]
   refine gz.need ⟨gq,gq⟩ ?_;rw[ea,aa];have pl2:((vh ((0:Int)+1) [p,q]).length:Int)=2:=by rw[pl];rfl
   refine gz.need ⟨gq,gq⟩ (gz.need ⟨gq,gq⟩ ?_);rw[pg0,show(0:Int)+1+(((([p,q].take 0).flatten.length:Nat)):Int)=((0+1+([p,q].take 0).flatten.length:Nat):Int) by omega,s0,aa];refine gz.need ⟨gq,gq⟩ (gz.need ⟨gq,gq⟩ ?_);rw[pg1,show(0:Int)+1+(((([p,q].take 1).flatten.length:Nat)):Int)=((0+1+([p,q].take 1).flatten.length:Nat):Int) by omega,s1,aa];refine gz.need ⟨gq,gq⟩ (gz.need (by simp;omega) (gz.need ⟨gq,gq⟩ (gz.need (by simp;omega) (gz.need (by simp;omega) (gz.need (by simp;omega) (.some ⟨⟨?_,?_⟩,h6⟩))))))
   ·have w1:Wf a 1 (y::(q++v)):=by
     refine Wf.kE.2 ⟨ho,?_⟩;rw[h2];have:=zL (a:=a) (us:=[q,v]) fun w hw=>by
      simp only[bw,cS,or_false]at hw;rcases hw with rfl|rfl
      ·exact hq
      ·exact hv
     simpa using this
    have w2:Wf a 1 (y::(p++(y::(q++v)))):=by
     refine Wf.kE.2 ⟨ho,?_⟩;rw[h2];have:=zL (a:=a) (us:=[p,y::(q++v)]) fun w hw=>by
      simp only[bw,cS,or_false]at hw;rcases hw with rfl|rfl
      ·exact hp
      ·exact w1
     simpa using this
    simpa using w2
   ·simp only[aj,bJ,List.getElem_cons_zero,List.getElem_cons_succ];omega
  ·rw[e1];exact .some ⟨hg,h6⟩
 ·rw[e2];exact .some ⟨hg,hi⟩
theorem Oe{a:fN}{x:Int}{L:Nat}{ws:List fN}(h2:mV a x=2)(h:Gd a x L ws):Gd a x L ((ws.set 0 (ws.getD 1 default)).set 1 (ws.getD 0 default)):=by
 obtain⟨k1,k2,k3⟩:=h;have k1':=k1;rw[h2]at k1';obtain⟨u,v,rfl⟩:=oI k1';refine⟨k1,fun w hw=>?_,?_⟩
 ·have:w∈[v,u]:=hw;exact k2 w (by simp at this⊢;rcases this with h|h<;>simp[h])
 ·show [v,u].flatten.length+1=L;simp only[aR,bY,bf,aj]at k3⊢;omega
theorem Da{a ac c0:fN}(hac:tg a ac)(hsac:Small ac)(ha:iz a=true)(hs:Small c0):∀(n:Nat){t:fN},Wf a 1 t->t.length<=60->∀{i h:Int},Cu c0 i->gz (t.length<=n) (i_ n a ac t c0 i h) fun r=>(Wf a 1 r.1/\r.1.length=t.length)/\Cu c0 r.2.1
 |0,t,ht,hl,i,h,hi=>⟨fun _ e=>by simp[i_]at e,fun e=>by have:=ht.len;omega⟩
 |n+1,t,ht,hl,i,h,hi=>by
  obtain⟨x,r,rfl,ho,hr⟩:=Wf.pos ht;rw[aX]at hr;obtain⟨us,h1,rfl,hu⟩:=kg hr;have h33:=vJ ha x;have e:=uc (r:=[]) (i:=0) ha hl (by simp) ho h1 hu;have hpl:=oH us ((0:Int)+1);rw[show((0:Nat):Int)=0 from rfl]at e;have ht0:0<(x::us.flatten).length:=by simp only[ai];omega
  have hlc:(x::us.flatten).length=us.flatten.length+1:=rfl;unfold i_;rw[ah gq,e,aa];refine gz.loop (fun q:Int×Int×Int×List fN=>∃j:Nat,j<=us.length/\q.1=j/\Cu c0 q.2.1/\q.2.2.2.length=j/\(∀w∈q.2.2.2,Wf a 1 w)/\q.2.2.2.flatten.length=(us.take j).flatten.length) (fun q:Int×Int×Int×List fN=>us.length-q.1.toNat)
   ⟨0,gq,rfl,hi,rfl,by simp,by simp⟩ ?_
  rintro⟨_,c,c',ws⟩ ⟨j,h2,rfl,h3,h4,h5,h6⟩;simp only at h3 h4 h5 h6;simp only[nX];by_cases hj:j<us.length
  ·have hd:=mG (t:=x::us.flatten) (r:=[]) (x:=x) (i:=0) (by simp) hj;have hg:=oG us ((0:Int)+1) j hj;have hw:=hu _ (aC hj);have hsub:=kY ha (show Small (x::us.flatten) by show List.length _<_;omega) hd hw;have hle:us[j].length<=us.flatten.length:=jG (aC hj);rw[ah (by simp only[az,hpl];omega),ah (by rw[hpl];omega)];simp only[aq];rw[hg,show(0:Int)+1+((us.take j).flatten.length:Int)=((0+1+(us.take j).flatten.length:Nat):Int) by omega,hsub,aa];refine gz.bind ((Da hac hsac ha hs n hw gq h3).weak fun hn=>by omega) fun r2 hr2=>?_
   obtain⟨⟨r1,r3⟩,r4⟩:=hr2;refine gz.need gq (.some ⟨⟨j+1,gq,jS gq gq,r4,by simp[h4],fun w hw=>?_,?_⟩,?_⟩)
   ·rcases aM.1 hw with hw|hw
    ·exact h5 w hw
    ·rw[bq]at hw;rw[hw];exact r1
   ·simp only[];rw[bM,dR,aj,aJ hj,bM,dR,aj,h6,r3]
   ·simp only[];rw[jS (n:=(j:Int)+1) gq gq];omega
  ·obtain rfl:j=us.length:=by omega
   rw[bh]at h6;have hgd:Gd a x (x::us.flatten).length ws:=⟨by rw[h4,h1],h5,by rw[h6];rfl⟩;have hfin:=PF ho hgd;have hfl:ws.flatten.length<=1000:=by omega
   have hwl:ws.length<=1000:=by omega
   rw[ay (by simp only[az,hpl];omega)];refine gz.inr ?_;rw[ah gq,qx hsac,aa,bB];by_cases hx:x∈ac
   ·obtain⟨k0,k2⟩:=hac x hx;have hsw:=Oe k2 hgd;have hwl2:ws.length=2:=by rw[h4,h1,k2]
    have hsl:((ws.set 0 (ws.getD 1 default)).set 1 (ws.getD 0 default)).length=ws.length:=by simp
    have hsf:((ws.set 0 (ws.getD 1 default)).set 1 (ws.getD 0 default)).flatten.length<=1000:=by have:=hsw.2.2;omega
    simp only[hx,bl,aO];refine gz.bind ((mo hs h3 2 c').weak fun _=>trivial) fun r4 hr4=>gz.ite (fun _=>?_) fun _=>?_
    ·rw[ah gq,ah gq,ah gq,ah (by rw[dM];omega),ah gq,aa,ah rfl];refine((Mp ha hs ho k2 k0 (t:=x::us.flatten) rfl ht0 hl hsw hr4 (h:=r4.2.2) (L1:=kz ws) (L2:=kA ws r4) (fun r=>?_) ?_).weak fun _=>trivial).mono fun r hr=>hr
     ·refine sU (fun out j hj hn hb=>?_) (fun out=>?_) hsf gq
      ·simp only[kz];rw[ah (by simpa using hj),ah gq,aq,ah hb,jS (n:=(j:Int)+1) gq gq]
      ·simp only[kz];rw[ay (by simp)];rfl
     ·refine sU (fun out j hj hn hb=>?_) (fun out=>?_) hsf gq
      ·simp only[kA];rw[ah (by simpa using hj),ah gq,aq,ah hb,jS (n:=(j:Int)+1) gq gq]
      ·simp only[kA];rw[ay (by simp)];rfl
    ·rw[ah gq,aa,ah rfl];refine((Mp ha hs ho k2 k0 (t:=x::us.flatten) rfl ht0 hl hgd hr4 (h:=r4.2.2) (L1:=kB ws) (L2:=kC ws r4) (fun r=>?_) ?_).weak fun _=>trivial).mono fun r hr=>hr
     ·refine sU (fun out j hj hn hb=>?_) (fun out=>?_) hfl hwl
      ·simp only[kB];rw[ah (by simpa using hj),ah gq,aq,ah hb,jS (n:=(j:Int)+1) gq gq]
      ·simp only[kB];rw[ay (by simp)];rfl
     ·refine sU (fun out j hj hn hb=>?_) (fun out=>?_) hfl hwl
      ·simp only[kC];rw[ah (by simpa using hj),ah gq,aq,ah hb,jS (n:=(j:Int)+1) gq gq]
      ·simp only[kC];rw[ay (by simp)];rfl
   ·simp only[hx,bA,av,aI];rw[ah gq,aa];have:=sU (xs:=ws) (x:=x) (c:=(c,c')) (F:=jZ c c' ws) (fun out j hj hn hb=>by
     simp only[jZ];rw[ah (by simpa using hj),ah gq,aq,ah hb,jS (n:=(j:Int)+1) gq gq]) (fun out=>by
     simp only[jZ];rw[ay (by simp)];rfl) hfl hwl
    rw[this];exact .some ⟨hfin,h3⟩
theorem Hq{a ac c0 t:fN}(hac:tg a ac)(hsac:Small ac)(ha:iz a=true)(hs:Small c0)(ht:Wf a 1 t)(hl:t.length<=60){i h:Int}(hi:Cu c0 i):gz True (nH a ac t c0 i h) fun r=>Cu c0 r.2.1:=
 gz.lim t.length fun n=>(Da hac hsac ha hs n ht hl hi).mono fun r hr=>hr.2
theorem Rs{a t:fN}(h:D3 t)(hw:Wf a 1 t):∀x∈t, -4<=x:=fun x hx=>by
 have h1:=h x hx;have h2:=(hw.all x hx).1;rcases h1 with h1|h1<;>omega
theorem RO{a ac p t:fN}(hl:ac.length<=10)(hd:D3 p):gz True ((iU a ac p t).bind fun r_2=>(jf a ac p t).bind fun r_3=>
 if(r_2.2 != r_3.2)=true then some false
 else if((r_2.1.length:Int) != (r_3.1.length:Int))=true then some false
 else(kK a ac p t).bind fun r_4=>
  if(r_4 != (decide (0<(r_3.1.length:Int))))=true then some false
  else gF (iA (a,ac,p,t) r_2 r_3) 0) (·=true):=by
 have hl':ac.length<=1000:=by omega
 have fin:∀{I S:List Bd×Bool},iU a ac p t=some I->jf a ac p t=some S->I.2=S.2->I.1.length=S.1.length->(I.2=false->I.1.length=0)->
  gz True (gF (iA (a,ac,p,t) I S) 0) (·=true)->gz True ((iU a ac p t).bind fun r_2=>(jf a ac p t).bind fun r_3=>
  if(r_2.2 != r_3.2)=true then some false
  else if((r_2.1.length:Int) != (r_3.1.length:Int))=true then some false
  else(kK a ac p t).bind fun r_4=>
   if(r_4 != (decide (0<(r_3.1.length:Int))))=true then some false
   else gF (iA (a,ac,p,t) r_2 r_3) 0) (·=true):=fun{I S} h1 h2 h3 h4 h5 h6=>by
  rw[h1,aa,h2,aa,ay (by rw[h3];simp),ay (by rw[h4];simp)];unfold kK;rw[h1,aa];cases hb:I.2 with
  |true=>
   rw[ah rfl,aa,ay (by rw[h4];simp)];exact h6
  |false=>
   have:=h5 hb;rw[ay (by decide),aa,ay (by rw[<-h4,this];decide)];exact h6
 have none_ok:∀{I S:List Bd×Bool},I=([],false)->S=([],false)->iU a ac p t=some I->jf a ac p t=some S->gz True ((iU a ac p t).bind fun r_2=>(jf a ac p t).bind fun r_3=>
  if(r_2.2 != r_3.2)=true then some false
  else if((r_2.1.length:Int) != (r_3.1.length:Int))=true then some false
  else(kK a ac p t).bind fun r_4=>
   if(r_4 != (decide (0<(r_3.1.length:Int))))=true then some false
   else gF (iA (a,ac,p,t) r_2 r_3) 0) (·=true):=fun{I S} e1 e2 h1 h2=>by
  subst e1 e2;refine fin h1 h2 rfl rfl (fun _=>rfl) ?_;have:gF (iA (a,ac,p,t) ([],false) ([],false)) 0=some true:=oN (by
   simp only[iA];rw[ay (by decide)];rfl)
  exact gz.of this rfl
 have hI:iU a ac p t=if(uj a ac&&lS a p)=true then(if lS a t=true then(gZ (a,ac) p t)else some ([],false))else some ([],false):=by
  unfold iU;rw[EZ hl',aa];split
  ·rw[vm,aa];split
   ·cases gZ (a,ac) p t<;>rfl
   ·rfl
  ·rfl
 have hS:jf a ac p t=if(uj a ac&&lS a p)=true then(if(uj a ac&&lS a t)=true then(iL a ac p t)else some ([],false))else some ([],false):=by
  unfold jf;rw[uD hl',aa];split
  ·rw[uD hl',aa];split
   ·cases iL a ac p t<;>rfl
   ·rfl
  ·rfl
 by_cases c1:(uj a ac&&lS a p)=true
 ·rw[ah c1]at hI hS;rw[bL]at c1;by_cases c2:lS a t=true
  ·rw[ah c2]at hI;rw[c1.1,c2,ah (by rfl)]at hS;obtain⟨ha,hac⟩:=FY c1.1;have hs:Small ac:=by show ac.length<_;omega
   obtain⟨_,_,p1,p2⟩:=lT.1 c1.2;obtain⟨_,_,t1,t2⟩:=lT.1 c2;rcases Nt hac hs ha p2 p1 (Rs hd p2) t2 t1 with⟨e1,e2⟩|⟨A,O1,O2,hR⟩
   ·exact none_ok rfl rfl (hI.trans e1) (hS.trans e2)
   ·refine fin (hI.trans hR.impl) (hS.trans hR.spec) rfl (by rw[hR.o1.1,hR.o2.1]) (fun h=>by cases h) ?_;have lA:=hR.W2;have l1:=hR.o1.1;have l2:=hR.o2.1;refine gz.loop (fun q:Int=>∃j:Nat,j<=A.length/\q=j) (fun q:Int=>A.length-q.toNat) ⟨0,gq,rfl⟩ ?_;rintro _ ⟨j,h1,rfl⟩;simp only[iA];by_cases hj:j<A.length
    ·rw[ah (by simp only[az];omega),ah gq,ah gq,jS (n:=(j:Int)+1) gq gq];have hj1:j<O1.length:=by omega
     have hj2:j<O2.length:=by omega
     simp only[aq,gH hj1,gH hj2];obtain⟨g',hr,he⟩:=(hR.mem A[j]).1 (aC hj);have hg:=hR.gb g' hr;have o1:=hR.o1.2 j hj hj1;have o2:=hR.o2.2 j hj hj2;rw[he]at o1 o2;rw[Cb hR.env hg o1 o2,aa,ah rfl,ah gq,FC hR.env c1.2 hg hr o1,aa];split
     ·rename_i h60;have hw:Wf a 1 (Tm.sub (gK g') p):=p2.sub hr.1.wf;have hu:lS a (Tm.sub (gK g') p)=true:=lT.2 ⟨ha,hw.len,h60,hw⟩;rw[ah rfl,Fy hl' c1.1 hu c2 hr.2,aa,ah rfl];exact .some ⟨⟨j+1,gq,by simp⟩,by simp only[];omega⟩
     ·rw[ay (by decide)];exact .some ⟨⟨j+1,gq,by simp⟩,by simp only[];omega⟩
    ·obtain rfl:j=A.length:=by omega
     rw[ay (by simp only[az];omega)];refine gz.inr ?_;rw[ah trivial];refine gz.bind (JU hac c1.2 c2) fun r hr=>?_
     refine gz.ite (fun hb=>.some ?_) fun _=>.some rfl
     obtain⟨g',h9⟩:=hr hb;have hm:=(hR.mem (vg g')).2 ⟨g',h9,rfl⟩;have:=List.length_pos_of_mem hm;simp only[tj,az];omega
  ·rw[ay c2]at hI;rw[c1.1,show lS a t=false by simpa using c2,ay (by decide)]at hS;exact none_ok rfl rfl hI hS
 ·rw[ay c1]at hI hS;exact none_ok rfl rfl hI hS
theorem Dp{c0:fN}(hs:Small c0){i:Int}(hi:Cu c0 i)(h:Int):gz True (lV c0 i h) fun r=>r.2.1.length<=10/\D3 r.2.2.1:=by
 unfold lV;refine gz.bind (Dq hs hi h) fun r hr=>?_
 obtain⟨⟨ha,hl⟩,hc⟩:=hr;refine gz.bind (yd ha hs _ hc) fun r1 hr1=>gz.bind (yd ha hs _ hr1.2) fun r2 hr2=>?_
 rw[uD (show r.2.1.length<=1000 by omega),aa];refine gz.ite (fun hok=>?_) fun _=>.some ⟨hl,hr1.1.2⟩
 rw[bL]at hok;obtain⟨_,hac⟩:=FY hok.1;obtain⟨_,_,p1,p2⟩:=lT.1 hok.2;have hsac:Small r.2.1:=by show r.2.1.length<_;omega
 refine gz.bind (mo hs hr2.2 3 _) fun r4 hr4=>gz.ite (fun _=>.some ⟨hl,hr1.1.2⟩) fun _=>?_
 refine gz.bind (tT ha hs (vars:=1) gq gq 1 _ gq gq gq hr4) fun r5 h5=>gz.bind (tT ha hs (vars:=1) gq gq 0 _ gq gq gq h5.2) fun r6 h6=>?_
 obtain⟨⟨⟨w5,l5⟩,v5⟩,c5⟩:=h5;obtain⟨⟨⟨w6,l6⟩,v6⟩,c6⟩:=h6;have t0:tb 0=1:=by decide
 have t1:tb 1=4:=by decide
 have hlen:∀u∈[r5.1,r6.1],u.length<=60:=fun u hu=>by
  simp only[bw,cS,or_false]at hu;rcases hu with rfl|rfl<;>omega
 have hwf:∀u∈[r5.1,r6.1],Wf r.1 1 u:=fun u hu=>by
  simp only[bw,cS,or_false]at hu;rcases hu with rfl|rfl
  ·exact w5
  ·exact w6
 rw[ug (by simp) hlen gq (fun x hx=>(p2.all x hx).1),aa];unfold AD;split
 ·rename_i h60;have hw:Wf r.1 1 (Tm.sub (Tm.sig [r5.1,r6.1]) r1.1):=p2.sub fun x hx h0=>by
   have h24:=(p2.all x hx).1;unfold Tm.sig;split
   ·exact Hs h24 h0
   ·rename_i hne;unfold gK at hne⊢;by_cases hi2:(-1-x).toNat<2
    ·have:([r5.1,r6.1]:List fN).getD (-1-x).toNat []∈[r5.1,r6.1]:=by
      rw[ak,aA (by simpa using hi2)];exact aC _
     exact hwf _ this
    ·exact absurd (by rw[ak,bz (by simp only[ai,bG];omega)];rfl) hne
  show gz True (if true=true then _ else _) _;rw[ah rfl];exact gz.bind (Hq hac hsac ha hs hw h60 c6) fun r8 _=>.some ⟨hl,hr1.1.2⟩
 ·show gz True (if false=true then _ else _) _;rw[ay (by decide)];exact .some ⟨hl,hr1.1.2⟩
theorem wA(code:fN):oq code=some true:=by
 unfold oq vF;rw[aa];refine gz.eq (gz.ite (fun _=>.some rfl) fun hc=>?_);have hs:Small code:=by
  have:¬(4096:Int)<code.length:=by simpa using hc
  show code.length<_;omega
 unfold nk;refine gz.bind (P:=fun r=>r.2.1.length<=10/\D3 r.2.2.1) (gz.bind (R5 hs) fun r hr=>?_) fun r1 hr1=>RO hr1.1 hr1.2
 obtain⟨e1,e2⟩:=hr;rw[e1,e2];exact gz.bind (Dp hs ⟨gq,gq⟩ _) fun r2 hr2=>.some hr2
theorem Lx{code:fN}:iw Tryz.prog 5 [(gu 1 (kD .u8)) code] (bD true):=yj.c (wA code)
end Go.Proofs.YthdnkoejpdcnpaaGreat
