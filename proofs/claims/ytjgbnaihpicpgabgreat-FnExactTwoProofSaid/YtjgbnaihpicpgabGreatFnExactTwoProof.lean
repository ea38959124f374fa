/- The statement about FnExactTwoProof is proved: the law returns true at every input and leaves the input as it was; nothing is assumed. -/
import Derived.Test.YtjgbnaihpicpgabGreatTa
import Derived.Test.YtjgbnaihpicpgabGreatTd
import Derived.Test.YtjgbnaihpicpgabGreatTp
import Derived.Test.YtjgbnaihpicpgabGreatTq
import Derived.Carry
import Derived.Test.YtjgbnaihpicpgabGreatRows
import Derived.ProofKit
import Derived.JoinedOf
import Derived.KernelRfl
set_option linter.all false
namespace Go.Proofs.YtjgbnaihpicpgabGreat
open Go oq Tm
open Un hiding Bd
theorem N5{w:HY}{t:gI}{m:Nat}(h1:w.1=t)(h2:1<=t.length)(h3:t.length<=60)(h4:w.2.length<=60):GN (zF w) m:=by
 refine⟨⟨show(1:Int)<=1 by decide,show(1:Int)<=12 by decide⟩,?_,by simp[zF],fun u hu=>?_,by simp[zF],fun x hx=>by cases hx⟩
 ·have:=FO w.2;simp only[zF];omega
 ·obtain rfl:u=w.1:=by simpa[zF]using hu
  rw[h1];omega
theorem Wg:GN ((9,[],[],[0,1]):Nd) 2:=⟨by decide,by decide,by decide,fun t ht=>(nomatch ht),by decide,by decide⟩
def EW(o:Option (HY×HY)):List Nd×Bool:=match o with|some p=>([zF p.1,zF p.2,(9,[],[],[0,1])],true)|none=>([],false)
theorem Uq(sys:Sys)(steps:Int):∃o,sx sys steps=some (EW o)/\sG sys steps=some (EW o)/\GP (EW o).1:=by
 unfold sx sG;rw[C9,Dc,aa,aa,rZ,aa];by_cases hs:kC sys=true
 ·rw[ah hs];cases hp:BV sys steps with
  |none=>exact⟨none,by simp[QB,EW],by simp[QB,EW],fun i hi=>by simp[EW]at hi⟩
  |some p=>
   unfold BV at hp;rw[ah hs]at hp;obtain⟨hm,_⟩:=OU hp;obtain⟨ov,i,un,f⟩:=TJ hs hm;obtain⟨path,q,hq,e1,e2,e3,e4⟩:=QI hs f;obtain⟨g1,g2,g3⟩:p.1.2.2.2.1=(i:Int)/\p.1.2.2.2.2.1=(un:Int)/\p.1.2.2.2.2.2=(ov:Int):=by rw[f.agL];exact⟨rfl,rfl,rfl⟩
   obtain⟨_,t1,t2,_⟩:=ja.1 f.top;have yD:=f.yD;obtain⟨o1,a1,a2,a3⟩:=KU hs f.top hq f.hun p.2.1 steps;obtain⟨o2,b1,b2,b3⟩:=KU hs f.top (k:=0) iA f.yD p.2.2 steps;simp only[QB,aA,g1,g2,g3];rw[ah iA,ah iA,ai,e1,e2,aa,aa,e3,e4,aa,aa,a1,a2,aa,aa];rw[show(0:Int)=((0:Nat):Int)from rfl,b1,b2,aa,aa];cases o1 with
   |none=>exact⟨none,by simp[MS,EW],by simp[Cp,EW],fun i hi=>by simp[EW]at hi⟩
   |some w1=>
    cases o2 with
    |none=>exact⟨none,by simp[MS,EW],by simp[Cp,EW],fun i hi=>by simp[EW]at hi⟩
    |some w2=>
     obtain⟨c1,c2⟩:=a3 w1 rfl;obtain⟨d1,d2⟩:=b3 w2 rfl;have gp:GP (EW (some (w1,w2))).1:=fun j hj=>by
      simp only[EW,aN,bH]at hj;rcases(by omega:j=0\/j=1\/j=2)with rfl|rfl|rfl
      ·exact N5 c1 t1 t2 c2
      ·exact N5 d1 t1 t2 d2
      ·exact Wg
     refine⟨some (w1,w2),by simp[MS,EW,zF],?_,gp⟩;simp only[Cp,aA];rw[xN (by rw[c1];exact t1) (by rw[c1];exact t2) c2,aa,xN (by rw[d1];exact t1) (by rw[d1];exact t2) d2,aa];have:=P_ gp (by simp[EW]) (by simp[EW]);exact(bP (fun x=>Option.bind x fun r=>some r) this).trans rfl
 ·rw[aj hs];have:BV sys steps=none:=by unfold BV;rw[aj hs]
  rw[this];exact⟨none,by simp[QB,EW],by simp[EW],fun i hi=>by simp[EW]at hi⟩
abbrev RD:=Nd
structure Vj(n:RD):Prop where
 ints:n.2.1.length<=200
 terms:n.2.2.1.length<=61
 to:∀t∈n.2.2.1,1<=t.length/\t.length<=60
 kids:n.2.2.2.length<=64
theorem acT{p:List RD}(h:GP p):∀n∈p,Vj n:=fun n hn=>by
 obtain⟨i,hi,rfl⟩:=fL hn;obtain⟨h1,h2,h3,h4,h5,h6⟩:=h i hi;rw[jb hi]at h2 h3 h4 h5;exact⟨h2,iA,h4,h5⟩
theorem XH(o:Option (HY×HY)):(EW o).1.length<=1048576:=by
 cases o with
 |none=>exact cS _
 |some p=>show 3<=1048576;decide
end Go.Proofs.YtjgbnaihpicpgabGreat
namespace Go.Proofs.YtjgbnaihpicpgabGreat
open Go oq Tm
abbrev Mx:Nat:=1048576
abbrev UG{α:Type}(xs:List α):Prop:=xs.length<9223372036854775808
theorem szI{a:gI}(ha:UG a){left:Int}(h0:0<=left)(hM:left<=Mx):∃r,oh a left=some r/\ -1<=r/\r<=left/\(0<=r->a.length<=Mx):=by
 unfold oh;have ha':a.length<9223372036854775808:=ha;have hM':left<=1048576:=hM;rw[kM (n:=left-(a.length:Int)) iA iA];by_cases h:left-(a.length:Int)<0
 ·exact⟨-1,by simp[h],iA,iA,iA⟩
 ·exact⟨left-a.length,by simp[h],iA,iA,fun _=>by show a.length<=1048576;omega⟩
theorem Wx{α:Type}[Inhabited α]{a:List α}{Q:α->Prop}{f:Int×Int->Option ie}
 (h:∀(i:Nat)(left:Int)(x:α),i<a.length->x∈a->a.getD i default=x->0<=left->left<=Mx->(∃r,0<=r/\r<=left/\Q x/\f (left,(i:Int))=some (.inl (r,(i:Int)+1)))\/f (left,(i:Int))=some (.inr (-1)))
 (he:∀left,f (left,(a.length:Int))=some (.inr left)) {left:Int} (h0:0<=left) (hM:left<=Mx):∃r,iL f (left,0)=some r/\ -1<=r/\r<=left/\(0<=r->∀x∈a,Q x):=by
 have key:∀(rs:List α)(i:Nat)(left:Int),a.drop i=rs->i+rs.length=a.length->0<=left->left<=Mx->∃r,iL f (left,(i:Int))=some r/\ -1<=r/\r<=left/\(0<=r->∀x∈rs,Q x):=by
  intro rs;induction rs with
  |nil=>
   intro i left hd hl h0 hM;obtain rfl:i=a.length:=by simpa using hl
   exact⟨left,iK (he _),iA,iA,fun _ x hx=>by cases hx⟩
  |cons x rs ih=>
   intro i left hd hl h0 hM;simp only[aN]at hl;obtain⟨g1,g2,g3⟩:=drop_cons hd;rcases h i left x g1 (by rw[<-g2];exact jP g1) g2 h0 hM with⟨r,r0,r1,r2,r3⟩|hx
   ·obtain⟨r',e1,e2,e3,e4⟩:=ih (i+1) r g3 iA r0 iA;rw[iZ r3,show((i:Int)+1)=((i+1:Nat):Int) by omega];refine⟨r',e1,e2,iA,fun hr y hy=>?_⟩;rcases bA.1 hy with rfl|hy
    ·exact r2
    ·exact e4 hr y hy
   ·exact⟨-1,iK hx,iA,iA,iA⟩
 exact key a 0 left (by simp) (by simp) h0 hM
theorem Um{x:gI×gI}(h1:UG x.1)(h2:UG x.2){left:Int}(h0:0<=left)(hM:left<=Mx):∃r,uR x left=some r/\ -1<=r/\r<=left/\(0<=r->x.1.length<=Mx/\x.2.length<=Mx):=by
 obtain⟨r,e1,e2,e3,e4⟩:=szI h1 h0 hM;unfold uR;rw[e1,aa];by_cases hr:r<0
 ·exact⟨-1,by simp[hr],iA,iA,iA⟩
 ·obtain⟨r',g1,g2,g3,g4⟩:=szI h2 (left:=r) iA iA;rw[g1];by_cases hr':r'<0
  ·exact⟨-1,by simp[hr,hr'],iA,iA,iA⟩
  ·exact⟨r',by simp[hr,hr'],iA,iA,fun _=>⟨e4 iA,g4 iA⟩⟩
structure ZT(s:Sys):Prop where
 sig:UG s.1
 rules:UG s.2
 to:∀r∈s.2,UG r.1/\UG r.2
structure SmS(s:Sys):Prop where
 sig:s.1.length<=Mx
 rules:s.2.length<=Mx
 to:∀r∈s.2,r.1.length<=Mx/\r.2.length<=Mx
theorem O0{a:List gM}(ha:UG a)(ht:∀r∈a,UG r.1/\UG r.2){left:Int}(h0:0<=left)(hM:left<=Mx):
 ∃r,tE a left=some r/\ -1<=r/\r<=left/\(0<=r->a.length<=Mx/\∀x∈a,x.1.length<=Mx/\x.2.length<=Mx):=by
 unfold tE;have ha':a.length<9223372036854775808:=ha;have hM':left<=1048576:=hM;rw[kM (n:=left-(a.length:Int)) iA iA];by_cases h:left-(a.length:Int)<0
 ·exact⟨-1,by simp[h],iA,iA,iA⟩
 ·obtain⟨r,e1,e2,e3,e4⟩:=Wx (a:=a) (Q:=fun x=>x.1.length<=Mx/\x.2.length<=Mx) (f:=qg a) (left:=left-a.length) (fun i left x hi hx hg h0 hM=>by
   obtain⟨r,e1,e2,e3,e4⟩:=Um (ht x hx).1 (ht x hx).2 h0 hM;simp only[qg,show(i:Int)<a.length by omega,aL,aA,show(0:Int)<=i by omega,bk,ai,hg,e1,aa,kM (n:=(i:Int)+1) iA iA];by_cases hr:r<0
   ·exact .inr (by simp[hr])
   ·exact .inl ⟨r,iA,e3,e4 iA,by simp[hr]⟩) (fun left=>by simp[qg]) iA (by show left-a.length<=1048576;omega)
  refine⟨r,by rw[aj (by simpa using h)];exact e1,e2,iA,fun hr=>⟨?_,e4 hr⟩⟩;show a.length<=1048576;omega
theorem Lj{s:Sys}(hs:ZT s):∃r,sE s 1048576=some r/\(0<=r->SmS s):=by
 obtain⟨r,e1,e2,e3,e4⟩:=szI hs.sig (left:=1048576) iA (by decide);unfold sE yw;rw[e1,aa];by_cases hr:r<0
 ·exact⟨-1,by simp[hr],iA⟩
 ·obtain⟨r',g1,g2,g3,g4⟩:=O0 hs.rules hs.to (left:=r) iA (Int.le_trans e3 (by decide));simp only[hr,aS,aq,aE,aa,g1];by_cases hr':r'<0
  ·exact⟨-1,by simp[hr'],iA⟩
  ·exact⟨r',by simp[hr'],fun h=>⟨e4 iA,(g4 h).1,(g4 h).2⟩⟩
theorem yU{a:gI}(h:a.length<=Mx):tM a=some a:=by
 have h':a.length<=1048576:=h;unfold tM;rw[ah ⟨iA,iA,iA⟩];have:=Oh (a:=a) (z:=List.replicate a.length 0) (g:=id) (f:=uW a) (by simp) (fun i out hi ho hm=>by
  simp only[uW,show(i:Int)<a.length by omega,show(i:Int)<out.length by omega,aL,aA,show(0:Int)<=i by omega,bk,ai,kM (n:=(i:Int)+1) iA iA,id]) (fun out=>by simp[uW])
 simpa using this
theorem IM{x:gI×gI}(h:x.1.length<=Mx/\x.2.length<=Mx):Aa x=some x:=by
 unfold Aa;rw[yU h.1,aa,yU h.2,aa]
theorem HE{a:List gM}(h:a.length<=Mx)(ht:∀x∈a,x.1.length<=Mx/\x.2.length<=Mx):yV a=some a:=by
 have h':a.length<=1048576:=h;unfold yV;rw[ah ⟨iA,iA,iA⟩];have:=Oh (a:=a) (z:=List.replicate a.length ([],[])) (g:=id) (f:=wz a) (by simp) (fun i out hi ho hm=>by
  simp only[wz,show(i:Int)<a.length by omega,show(i:Int)<out.length by omega,aL,aA,show(0:Int)<=i by omega,bk,ai,IM (ht _ hm),aa,kM (n:=(i:Int)+1) iA iA,id]) (fun out=>by simp[wz])
 simpa using this
theorem Bk{s:Sys}(h:SmS s):rT s=some s:=by
 unfold rT Df;rw[yU h.sig,aa,aa,HE h.rules h.to,aa]
theorem Fp{s:Sys}(h:SmS s):yz s=some s:=by
 unfold yz;rw[Bk h,aa,ah ⟨rfl,rfl⟩]
theorem Ak{a:gI}(h:Small a):lC a a=some true:=by
 have h':a.length<1099511627776:=h;unfold lC;rw[aj (by simp)];refine Ca (a:=a) (fun i hi=>?_) (by simp[rX]);simp[rX,show(i:Int)<a.length by omega,kM (n:=(i:Int)+1) iA iA]
theorem Ki{x:gI×gI}(h:x.1.length<=Mx/\x.2.length<=Mx):uQ x x=some true:=by
 have h1:x.1.length<=1048576:=h.1;have h2:x.2.length<=1048576:=h.2;unfold uQ;rw[Ak (show x.1.length<_ by omega),aa,ah rfl,Ak (show x.2.length<_ by omega),aa,ah rfl]
theorem HI{s:Sys}(h:SmS s):sC s s=some true:=by
 have h1:s.1.length<=1048576:=h.sig;have h2:s.2.length<=1048576:=h.rules;have e:tD s.2 s.2=some true:=by
  unfold tD;rw[aj (by simp)];refine Ca (a:=s.2) (fun i hi=>?_) (by simp[s_]);simp only[s_,show(i:Int)<s.2.length by omega,aL,aA,show(0:Int)<=i by omega,bk,ai,Ki (h.to _ (jP hi)),aa,kM (n:=(i:Int)+1) iA iA]
 unfold sC yu;rw[Ak (show s.1.length<_ by omega)];simp[e]
theorem PU{a:List gI}(h:a.length<=Mx)(ht:∀t∈a,t.length<=Mx):qY a a=some true:=by
 have h1:a.length<=1048576:=h;unfold qY;rw[aj (by simp)];refine Ca (a:=a) (fun i hi=>?_) (by simp[qO]);have:=ht _ (jP hi);have h2:(a.getD i default).length<=1048576:=this;simp only[qO,show(i:Int)<a.length by omega,aL,aA,show(0:Int)<=i by omega,bk,ai,Ak (show(a.getD i default).length<_ by omega),aa,kM (n:=(i:Int)+1) iA iA]
theorem Vj.mx{n:RD}(h:Vj n):n.2.1.length<=Mx/\n.2.2.1.length<=Mx/\(∀t∈n.2.2.1,t.length<=Mx)/\n.2.2.2.length<=Mx:=by
 have g1:=h.ints;have g2:=h.terms;have g3:=h.kids;refine⟨by show _<=1048576;omega,by show _<=1048576;omega,fun t ht=>?_,by show _<=1048576;omega⟩;have:=h.to t ht;show _<=1048576;omega
theorem Kg{n:RD}(h:Vj n):uP n n=some true:=by
 obtain⟨g1,g2,g3,g4⟩:=h.mx;have e1:n.2.1.length<=1048576:=g1;have e4:n.2.2.2.length<=1048576:=g4;unfold uP;rw[aj (by simp),Ak (show n.2.1.length<_ by omega),aa,ah rfl,PU g2 g3,aa,ah rfl,Ak (show n.2.2.2.length<_ by omega),aa,ah rfl]
theorem IY{p:List RD}(hl:p.length<=Mx)(h:∀n∈p,Vj n):tC p p=some true:=by
 have h1:p.length<=1048576:=hl;have e:tB p p=some true:=by
  unfold tB;rw[aj (by simp)];refine Ca (a:=p) (fun i hi=>?_) (by simp[sZ]);simp only[sZ,show(i:Int)<p.length by omega,aL,aA,show(0:Int)<=i by omega,bk,ai,Kg (h _ (jP hi)),aa,kM (n:=(i:Int)+1) iA iA]
 unfold tC;rw[e];rfl
abbrev Kx:Int:=1152921504606846976
def mI(x:Int)(k:Int):Int×Int:=(k,k+1)
theorem DB{α:Type}{g:α->Int->α×Int}{B:Int}(hB:0<=B):∀{a:List α}{k:Int},0<=k->(∀x∈a,∀k,0<=k->k<=(g x k).2/\(g x k).2<=k+B)->k<=(jW g a k).2/\(jW g a k).2<=k+B*a.length
 |[],k,_,_=>by simp[jW]
 |x::r,k,h0,h=>by
  obtain⟨h1,h2⟩:=h x (by simp) k h0;obtain⟨h3,h4⟩:=DB hB (a:=r) (k:=(g x k).2) iA (fun y hy=>h y (by simp[hy]));simp only[jW,aN,Int.natCast_add,fF,Int.mul_add,Int.mul_one];omega
theorem DC{a:gI}{k:Int}(h0:0<=k):k<=(jW mI a k).2/\(jW mI a k).2<=k+a.length:=by
 have:=DB (g:=mI) (B:=1) (by decide) (a:=a) (k:=k) h0 (fun x _ k _=>by simp only[mI];omega);omega
theorem rj{a:gI}{n:Nat}{k:Int}(hn:n=a.length)(hl:a.length<=Mx)(h0:0<=k)(hk:k<=4*Kx):oE n a k=some (jW mI a k):=by
 subst hn;have hl':a.length<=1048576:=hl;have hk':k<=4*1152921504606846976:=hk;unfold oE;refine FK (g:=mI) (fun i k'=>0<=k'/\k'<=k+i) (fun i k' b x hi hb hx hg hp=>?_) (fun k' b=>by simp[xC]) ⟨h0,iA⟩;obtain⟨p0,p1⟩:=hp;refine⟨?_,by simp only[mI];omega⟩;simp only[xC,show(i:Int)<a.length by omega,show(i:Int)<b.length by omega,aL,aA,show(0:Int)<=i by omega,bk,ai,kM (n:=(i:Int)+1) iA iA,kM (n:=k'+1) iA iA,mI]
def mL(x:gI)(k:Int):gI×Int:=jW mI x k
theorem ac1{a:List gI}{k:Int}(h0:0<=k)(ht:∀t∈a,t.length<=Mx):k<=(jW mL a k).2/\(jW mL a k).2<=k+1048576*a.length:=
 DB (g:=mL) (B:=1048576) (by decide) h0 fun x hx k hk=>by
  have h1:x.length<=1048576:=ht x hx;have:=DC (a:=x) hk;simp only[mL];omega
theorem Fo{a:List gI}{n:Nat}{k:Int}(hn:n=a.length)(hl:a.length<=Mx)(ht:∀t∈a,t.length<=Mx)(h0:0<=k)(hk:k<=3*Kx):vU n a k=some (jW mL a k):=by
 subst hn;have hl':a.length<=1048576:=hl;have hk':k<=3*1152921504606846976:=hk;unfold vU;refine FK (g:=mL) (fun i k'=>0<=k'/\k'<=k+1048576*i) (fun i k' b x hi hb hx hg hp=>?_) (fun k' b=>by simp[vV]) ⟨h0,iA⟩;obtain⟨p0,p1⟩:=hp;have hx':x.length<=1048576:=ht x hx;have:=DC (a:=x) p0;refine⟨?_,by simp only[mL];omega⟩;simp only[vV,show(i:Int)<a.length by omega,show(i:Int)<b.length by omega,aL,aA,show(0:Int)<=i by omega,bk,ai,hg,rj rfl (ht x hx) p0 (show k'<=4*1152921504606846976 by omega),aa,kM (n:=(i:Int)+1) iA iA,mL]
def mR(x:gI×gI)(k:Int):gM×Int:=(((jW mI x.1 k).1,(jW mI x.2 (jW mI x.1 k).2).1),(jW mI x.2 (jW mI x.1 k).2).2)
theorem Yp{x:gI×gI}{k:Int}(h0:0<=k)(h:x.1.length<=Mx/\x.2.length<=Mx):k<=(mR x k).2/\(mR x k).2<=k+2097152:=by
 have h1:x.1.length<=1048576:=h.1;have h2:x.2.length<=1048576:=h.2;have g1:=DC (a:=x.1) h0;have g2:=DC (a:=x.2) (k:=(jW mI x.1 k).2) iA;simp only[mR];omega
theorem HC{a:List gM}{n:Nat}{k:Int}(hn:n=a.length)(hl:a.length<=Mx)(ht:∀x∈a,x.1.length<=Mx/\x.2.length<=Mx)(h0:0<=k)(hk:k<=2*Kx):yS n a k=some (jW mR a k):=by
 subst hn;have hl':a.length<=1048576:=hl;have hk':k<=2*1152921504606846976:=hk;unfold yS;refine FK (g:=mR) (fun i k'=>0<=k'/\k'<=k+2097152*i) (fun i k' b x hi hb hx hg hp=>?_) (fun k' b=>by simp[yy]) ⟨h0,iA⟩;obtain⟨p0,p1⟩:=hp;have hx1:x.1.length<=1048576:=(ht x hx).1;have g1:=DC (a:=x.1) p0;have:=Yp p0 (ht x hx);refine⟨?_,iA⟩;simp only[yy,show(i:Int)<a.length by omega,show(i:Int)<b.length by omega,aL,aA,show(0:Int)<=i by omega,bk,ai,hg,rj rfl (ht x hx).1 p0 (show k'<=4*1152921504606846976 by omega),
  rj rfl (ht x hx).2 (show 0<=(jW mI x.1 k').2 by omega) (show(jW mI x.1 k').2<=4*1152921504606846976 by omega),aa,kM (n:=(i:Int)+1) iA iA,mR]
theorem F1{s:Sys}(h:SmS s):∃m,xM s.1.length s.2.length s 1=some m/\0<=m.2/\m.2<=Kx:=by
 have h1:s.1.length<=1048576:=h.sig;have h2:s.2.length<=1048576:=h.rules;have g1:=DC (a:=s.1) (k:=1) (by decide);have g2:=DB (g:=mR) (B:=2097152) (by decide) (a:=s.2) (k:=(jW mI s.1 1).2) iA (fun x hx k hk=>Yp hk (h.to x hx));unfold xM Da;rw[rj rfl h.sig (by decide) (by decide),aa,aa,HC rfl h.rules h.to (show 0<=(jW mI s.1 1).2 by omega) (show(jW mI s.1 1).2<=2*1152921504606846976 by omega),aa];refine⟨_,rfl,?_,?_⟩
 ·show 0<=(jW mR s.2 (jW mI s.1 1).2).2;omega
 ·show(jW mR s.2 (jW mI s.1 1).2).2<=1152921504606846976;omega
def mN(n:RD)(k:Int):RD×Int:=
 ((k,(jW mI n.2.1 (k+1)).1,(jW mL n.2.2.1 (jW mI n.2.1 (k+1)).2).1,(jW mI n.2.2.2 (jW mL n.2.2.1 (jW mI n.2.1 (k+1)).2).2).1),(jW mI n.2.2.2 (jW mL n.2.2.1 (jW mI n.2.1 (k+1)).2).2).2)
theorem Tl{n:RD}{k:Int}(h0:0<=k)(h:Vj n):k+1<=(jW mI n.2.1 (k+1)).2/\(jW mI n.2.1 (k+1)).2<=(jW mL n.2.2.1 (jW mI n.2.1 (k+1)).2).2/\(jW mL n.2.2.1 (jW mI n.2.1 (k+1)).2).2<=(mN n k).2/\(mN n k).2<=k+67108864:=by
 have h1:=h.ints;have h2:=h.terms;have h3:=h.kids;have g1:=DC (a:=n.2.1) (k:=k+1) iA;have g2:=ac1 (a:=n.2.2.1) (k:=(jW mI n.2.1 (k+1)).2) iA h.mx.2.2.1;have g3:=DC (a:=n.2.2.2) (k:=(jW mL n.2.2.1 (jW mI n.2.1 (k+1)).2).2) iA;simp only[mN];omega
theorem HB{a:List RD}{n:Nat}{k:Int}(hn:n=a.length)(hl:a.length<=Mx)(ht:∀x∈a,Vj x)(h0:0<=k)(hk:k<=Kx):yQ n a k=some (jW mN a k):=by
 subst hn;have hl':a.length<=1048576:=hl;have hk':k<=1152921504606846976:=hk;unfold yQ;refine FK (g:=mN) (fun i k'=>0<=k'/\k'<=k+67108864*i) (fun i k' b x hi hb hx hg hp=>?_) (fun k' b=>by simp[yx]) ⟨h0,iA⟩;obtain⟨p0,p1⟩:=hp;obtain⟨b1,b2,b3,b4⟩:=Tl p0 (ht x hx);obtain⟨c1,c2,c3,c4⟩:=(ht x hx).mx;refine⟨?_,iA⟩;simp only[yx,show(i:Int)<a.length by omega,show(i:Int)<b.length by omega,aL,aA,show(0:Int)<=i by omega,bk,ai,hg,kM (n:=k'+1) iA iA,rj rfl c1 (show 0<=k'+1 by omega) (show k'+1<=4*1152921504606846976 by omega),aa,
  Fo rfl c2 c3 (show 0<=(jW mI x.2.1 (k'+1)).2 by omega) (show(jW mI x.2.1 (k'+1)).2<=3*1152921504606846976 by omega),
  rj rfl c4 (show 0<=(jW mL x.2.2.1 (jW mI x.2.1 (k'+1)).2).2 by omega) (show(jW mL x.2.2.1 (jW mI x.2.1 (k'+1)).2).2<=4*1152921504606846976 by omega),kM (n:=(i:Int)+1) iA iA,mN]
theorem S4{a:gI}{k:Int}(hl:a.length<=Mx)(h0:0<=k)(hk:k<=4*Kx):mJ (jW mI a k).1 k=some (jW mI a k).2:=by
 have hl':a.length<=1048576:=hl;have hk':k<=4*1152921504606846976:=hk;have hm:(jW mI a k).1.length=a.length:=BG;unfold mJ;refine EF (g:=mI) (fun i k'=>0<=k'/\k'<=k+i) (fun i k' x hi hx hg hp=>?_) (fun k'=>by simp[qf,hm]) ⟨h0,iA⟩;obtain⟨p0,p1⟩:=hp;refine⟨?_,by simp only[mI];omega⟩;simp only[qf,hm,show(i:Int)<a.length by omega,aL,aA,show(0:Int)<=i by omega,bk,ai,hg,mI,dJ,aq,aE,kM (n:=(i:Int)+1) iA iA,kM (n:=k'+1) iA iA]
theorem acU{a:List gI}{k:Int}(hl:a.length<=Mx)(ht:∀t∈a,t.length<=Mx)(h0:0<=k)(hk:k<=3*Kx):o_ (jW mL a k).1 k=some (jW mL a k).2:=by
 have hl':a.length<=1048576:=hl;have hk':k<=3*1152921504606846976:=hk;have hm:(jW mL a k).1.length=a.length:=BG;unfold o_;refine EF (g:=mL) (fun i k'=>0<=k'/\k'<=k+1048576*i) (fun i k' x hi hx hg hp=>?_) (fun k'=>by simp[pP,hm]) ⟨h0,iA⟩;obtain⟨p0,p1⟩:=hp;have hx':x.length<=1048576:=ht x hx;have:=DC (a:=x) p0;refine⟨?_,by simp only[mL];omega⟩;simp only[pP,hm,show(i:Int)<a.length by omega,aL,aA,show(0:Int)<=i by omega,bk,ai,hg,mL,S4 (ht x hx) p0 (show k'<=4*1152921504606846976 by omega),aa,show ¬(jW mI x k').2<0 by omega,aS,aq,aE,kM (n:=(i:Int)+1) iA iA]
theorem acV{a:List RD}{k:Int}(hl:a.length<=Mx)(ht:∀x∈a,Vj x)(h0:0<=k)(hk:k<=Kx):oK (jW mN a k).1 k=some (jW mN a k).2:=by
 have hl':a.length<=1048576:=hl;have hk':k<=1152921504606846976:=hk;have hm:(jW mN a k).1.length=a.length:=BG;unfold oK;refine EF (g:=mN) (fun i k'=>0<=k'/\k'<=k+67108864*i) (fun i k' x hi hx hg hp=>?_) (fun k'=>by simp[qP,hm]) ⟨h0,iA⟩;obtain⟨p0,p1⟩:=hp;obtain⟨b1,b2,b3,b4⟩:=Tl p0 (ht x hx);obtain⟨c1,c2,c3,c4⟩:=(ht x hx).mx;refine⟨?_,iA⟩;have e3:(jW mI x.2.2.2 (jW mL x.2.2.1 (jW mI x.2.1 (k'+1)).2).2).2=(mN x k').2:=rfl;simp only[qP,hm,show(i:Int)<a.length by omega,aL,aA,show(0:Int)<=i by omega,bk,ai,hg];simp only[show(mN x k').1=(k',(jW mI x.2.1 (k'+1)).1,(jW mL x.2.2.1 (jW mI x.2.1 (k'+1)).2).1,(jW mI x.2.2.2 (jW mL x.2.2.1 (jW mI x.2.1 (k'+1)).2).2).1)from rfl,dJ,aq,aE,kM (n:=k'+1) iA iA,aa,
  S4 c1 (show 0<=k'+1 by omega) (show k'+1<=4*1152921504606846976 by omega),show ¬(jW mI x.2.1 (k'+1)).2<0 by omega,aS,
  acU c2 c3 (show 0<=(jW mI x.2.1 (k'+1)).2 by omega) (show(jW mI x.2.1 (k'+1)).2<=3*1152921504606846976 by omega),show ¬(jW mL x.2.2.1 (jW mI x.2.1 (k'+1)).2).2<0 by omega,
  S4 c4 (show 0<=(jW mL x.2.2.1 (jW mI x.2.1 (k'+1)).2).2 by omega) (show(jW mL x.2.2.1 (jW mI x.2.1 (k'+1)).2).2<=4*1152921504606846976 by omega),e3,show ¬(mN x k').2<0 by omega,kM (n:=(i:Int)+1) iA iA]
theorem Qd{p:List RD}(hl:p.length<=Mx)(h:∀n∈p,Vj n):∃m,yR p.length p 1=some m/\m.1.length=p.length/\0<=m.2/\qZ m.1 1=some m.2:=by
 have hl':p.length<=1048576:=hl;have hb:=DB (g:=mN) (B:=67108864) (by decide) (a:=p) (k:=1) (by decide) (fun x hx k hk=>by have:=Tl hk (h x hx);omega);unfold yR;rw[HB rfl hl h (by decide) (by decide),aa];refine⟨_,rfl,BG,by show 0<=(jW mN p 1).2;omega,?_⟩;unfold qZ;show(oK (jW mN p 1).1 1).bind _=some (jW mN p 1).2;rw[acV hl h (by decide) (by decide),aa,aj (by simp;omega)]
end Go.Proofs.YtjgbnaihpicpgabGreat
namespace Go.Proofs.YtjgbnaihpicpgabGreat
open Go oq Tm
open Un hiding Bd
theorem Wr{s:Sys}{steps:Int}(hs:ZT s):oy s steps=some true:=by
 unfold oy;obtain⟨r,e1,e2⟩:=Lj hs;rw[e1,aa];by_cases hr:r<0
 ·rw[ah (by simpa using hr)]
 rw[aj (by simpa using hr)];have sm:=e2 iA;obtain⟨o,t1,t2,t3⟩:=Uq s steps;have pl:(EW o).1.length<=Mx:=XH o;have pn:=acT t3;obtain⟨m1,f1,f2,f3⟩:=F1 sm;obtain⟨m2,k1,k2,k3,k4⟩:=Qd pl pn;have l1:q_ s.1.length s.2.length s steps=some (EW o):=by unfold q_;rw[ah ⟨rfl,rfl⟩];exact t1
 have l2:p_ (EW o).1.length (EW o).1 (EW o).1=some true:=by unfold p_;rw[ah rfl];exact IY pl pn
 have l3:ue s.1.length s.2.length s.1.length s.2.length s s=some true:=by unfold ue;rw[ah ⟨rfl,rfl,rfl,rfl⟩];exact HI sm
 have l5:qh (EW o).1.length m2.1 1=some m2.2:=by unfold qh;rw[ah k2.symm];exact k4
 have n1:¬m1.2<0:=by omega
 have n2:¬m2.2<0:=by omega
 simp only[Fp sm,t2,Bk sm,aa,l1,l2,l3,l5,f1,k1,dJ,aq,aE,aA,n1,n2,aS]
theorem Jb{s:Sys}{steps:Int}(hs:ZT s):jK Tryz.prog 3 [nG s,iD steps] (bD true):=AI.c (Wr hs)
end Go.Proofs.YtjgbnaihpicpgabGreat
namespace Go.Proofs.YtjgbnaihpicpgabGreat
open Go oq Go.ChangeShapes Go.WideShapes Go.ChangeAt Go.RowKit
theorem agM:ownKnob Tryz.prog.godebug=none:=by kernel_rfl
theorem Ym:laidOutB Tryz.prog=true:=by kernel_rfl
theorem V1{α:Type}{f:α->D}(hf:∀y,∃cs,f y=.agg cs):∀y O w vs,D.jk O w (iI (f y)) vs->D.J6 O w (f y) vs:=fun y O w vs h=>by
 obtain⟨cs,e⟩:=hf y;rw[e]at h⊢;exact h
theorem V2{α:Type}{f:α->D}(hf:∀y,iI (f y)=[f y])(ha:∀y cs,f y≠ .agg cs):∀y O w vs,D.jk O w (iI (f y)) vs->D.J6 O w (f y) vs:=fun y O w vs h=>by
 rw[hf]at h;obtain⟨v,r,e,_,h2,h3⟩:=h;have h3':r=[]:=h3;subst h3';have:=ha y;cases hy:f y with
 |agg cs=>exact absurd hy (this cs)
 |_=>rw[hy]at h2;exact⟨v,e,h2⟩
theorem rd2:Rd Tryz.prog 2 1 iD (fun _=>True):=Rd.int Tryz.underlying2 (by kernel_rfl)
theorem adj:Rd Tryz.prog 22 1 (iH 1 iD) (fun x:gI=>(Cg x/\∀y0:Int,y0∈x->True)):=Rd.slice Tryz.underlying22 (by kernel_rfl) (by decide) rd2 (V2 (fun _=>rfl) (fun _ _ h=>nomatch h))
theorem agQ:Rd Tryz.prog 24 1 AE (fun x:gI=>((Cg x/\∀y0:Int,y0∈x->True))):=by
 have h:=Nt.cons (P:=Tryz.prog) (f:={name:= "Arity",type:=22,offset:=0,embedded:=false,tag:= "",pkgPath:= "",byteOffset:=0}) (m:=1) rfl adj rfl (Nt.nil);exact Rd.struct (fun y:gI×Unit=>y.1) Tryz.underlying24 (by kernel_rfl) h (fun _=>rfl) (fun _ h=>h.1)
theorem agT:Rd Tryz.prog 78 2 mX (fun x:gM=>((Cg x.1/\∀y0:Int,y0∈x.1->True)/\(Cg x.2/\∀y0:Int,y0∈x.2->True))):=by
 have h:=Nt.cons (P:=Tryz.prog) (f:={name:= "L",type:=22,offset:=0,embedded:=false,tag:= "",pkgPath:= "",byteOffset:=0}) (m:=2) rfl adj rfl (Nt.cons (f:={name:= "R",type:=22,offset:=1,embedded:=false,tag:= "",pkgPath:= "",byteOffset:=24}) rfl adj rfl (Nt.nil));exact Rd.struct (fun y:gI×gI×Unit=>(y.1,y.2.1)) Tryz.underlying78 (by kernel_rfl) h (fun _=>rfl) (fun _ h=>⟨h.1,h.2.1⟩)
theorem agR:Rd Tryz.prog 25 1 (iH 2 mX) (fun x:gR=>(Cg x/\∀y0:gM,y0∈x->((Cg y0.1/\∀y1:Int,y1∈y0.1->True)/\(Cg y0.2/\∀y1:Int,y1∈y0.2->True)))):=Rd.slice Tryz.underlying25 (by kernel_rfl) (by decide) agT (V1 fun _=>⟨_,rfl⟩)
theorem agS:Rd Tryz.prog 27 2 nG (fun x:gW=>(((Cg x.1/\∀y0:Int,y0∈x.1->True))/\(Cg x.2/\∀y0:gM,y0∈x.2->((Cg y0.1/\∀y1:Int,y1∈y0.1->True)/\(Cg y0.2/\∀y1:Int,y1∈y0.2->True))))):=by
 have h:=Nt.cons (P:=Tryz.prog) (f:={name:= "Sig",type:=24,offset:=0,embedded:=false,tag:= "",pkgPath:= "",byteOffset:=0}) (m:=2) rfl agQ rfl (Nt.cons (f:={name:= "Rules",type:=25,offset:=1,embedded:=false,tag:= "",pkgPath:= "",byteOffset:=24}) rfl agR rfl (Nt.nil));exact Rd.struct (fun y:gI×gR×Unit=>(y.1,y.2.1)) Tryz.underlying27 (by kernel_rfl) h (fun _=>rfl) (fun _ h=>⟨h.1,h.2.1⟩)
section
variable{H:Type}{enc:TypeId×Value->H}{P:Program}{w:World}{base:Nat}{spare:Nat->Bool}{held:Bool}
theorem Ng{t0 t1:TypeId}{args:Array Value}{ds:List (DataW H)}{ps:List MemPlace}(h:DataW.TrodAll enc P w base spare held [t0,t1] args.toList ds ps):
 ∃v0 v1 d0 d1 p0 p1,args=#[v0,v1]/\ds=[d0,d1]/\ps=p0++p1/\DataW.Trod enc P w base spare held t0 v0 d0 p0/\DataW.Trod enc P w base spare held t1 v1 d1 p1:=by
 obtain⟨v0,vs0,d0,ds0,p0,q0,hargs,rfl,rfl,k0,h0⟩:=trodAll_cons h;obtain⟨v1,vs1,d1,ds1,p1,q1,rfl,rfl,rfl,k1,h1⟩:=trodAll_cons h0;obtain⟨rfl,rfl,rfl⟩:=trodAll_nil h1;exact⟨v0,v1,d0,d1,p0,p1,by cases args;simp_all,rfl,by simp,k0,k1⟩
end
theorem Qa{W:World}{v0 v1:Value}{x0:gW}{x1:Int}(g0:(((Cg x0.1/\∀y0:Int,y0∈x0.1->True))/\(Cg x0.2/\∀y0:gM,y0∈x0.2->((Cg y0.1/\∀y1:Int,y1∈y0.1->True)/\(Cg y0.2/\∀y1:Int,y1∈y0.2->True)))))(g1:True)(h0:D.ok RC W (nG x0) v0)(h1:D.ok RC W (iD x1) v1):
 Calls Tryz.prog 3 #[v0,v1] W fun e W'=>e=.returned (.bool true)/\Below W.heap.size W W':=
 (KX (show jK Tryz.prog 3 [nG x0,iD x1] (bD true)from Jb (hs:=⟨g0.1.1,g0.2.1,fun r hr=>⟨(g0.2.2 r hr).1.1,(g0.2.2 r hr).2.1⟩⟩)) (vs:=#[v0,v1]) (fun _ _=>trivial) ⟨v0,_,rfl,h0,v1,_,rfl,h1,rfl⟩).mono fun _ _ ⟨⟨_,h1,h2⟩,h3⟩=>by
  simp only[D.ok]at h2;exact⟨by rw[h1,h2.1],h3⟩
set_option maxRecDepth 100000 in
theorem AM(os:Os)(started:os.Started)(H:Type)(enc:TypeId×Value->H):
 ReturnsInHanded {} Tryz.checked os 3 .any (Rows.fnExactTwoProofSpec.pre6 enc Tryz.prog Tryz.f3 Rows.fnExactTwoProofRow.domain false) (Rows.fnExactTwoProofSpec.post enc Tryz.prog Tryz.f3 false true false false):=by
 refine returnsInHanded_of_change (C:=Tryz.checked) agM started (by kernel_rfl) Tryz.func3
  (ChangeSpec.witness6 (enc:=enc) (C:=Tryz.checked) false ⟨#[],#[.agg #[.slice none 0 0,.slice none 0 0],.int .i64 0],[]⟩ 8 (by kernel_rfl) (by kernel_rfl) (by kernel_rfl) (by kernel_rfl)) ?_
 intro W base args ds gs before hval0 hW hcnd _;have hval:∀(j:Nat) t v,Tryz.f3.params[j]?=some t->args[j]?=some v->Value.okWide Tryz.prog W .any base t v:=hval0;have hW':=hW;obtain⟨p,q,hA0,hV,rfl,hfz,hnd⟩:=hW;have hA:DataW.TrodAll enc Tryz.prog W 0 (fun _=>true) true Tryz.f3.params.toList args.toList ds p:=hA0;rw[Tryz.params3]at hA hval;obtain⟨v0,v1,d0,d1,p0,p1,rfl,rfl,hpp,t0,t1⟩:=Ng hA;subst hpp;obtain⟨rfl,rfl⟩:=trodVars_none hV;have k0:=t0;have lt0:∀x∈p0,x.block<W.heap.size:=by obtain⟨m,hm⟩:=t0;exact DataW.trod_lt m _ _ _ hm
 have k1:=t1;have lt1:∀x∈p1,x.block<W.heap.size:=by obtain⟨m,hm⟩:=t1;exact DataW.trod_lt m _ _ _ hm
 obtain⟨x0,g0,h0⟩:=agS.agg Tryz.underlying27 (fun _=>⟨_,rfl⟩) (hval 0 _ v0 rfl rfl) t0;obtain⟨n1,rfl⟩:=okWide_int Tryz.underlying2 (hval 1 _ v1 rfl rfl);obtain⟨x1,g1,h1⟩:=rd2.cell (fun _=>rfl) rfl t1;clear hA0 hval0;refine(Qa g0 g1 h0 h1).mono fun e W' ⟨he,bel⟩=>?_
 subst he;have s0:=Below.trod Ym (by kernel_rfl) (fh (by kernel_rfl)) k0 bel lt0;have s1:=Below.trod Ym (by kernel_rfl) (fh (by kernel_rfl)) k1 bel lt1;exact⟨_,rfl,_,_,_,[],_,[],hW',trodAll_mk1 (shut_bool Tryz.underlying4 _),trodAll_cons_mk s0 (trodAll_mk1 s1),rfl,bel.frame _,fun h=>by cases h⟩
end Go.Proofs.YtjgbnaihpicpgabGreat
namespace Go.Proofs.YtjgbnaihpicpgabGreat
open Go Go.ChangeShapes Go.WideShapes Go.ChangeAt Go.RowKit
theorem Z9{a b:Bool}(ha:a=true)(hb:b=true):(a&&b)=true:=by rw[ha,hb];rfl
set_option maxRecDepth 100000 in
set_option maxHeartbeats 4000000 in
theorem V3:joinedFacts Tryz.prog 3 Tryz.f3 Rows.fnExactTwoProofSpec Rows.fnExactTwoProofRow=true:=by
 unfold joinedFacts
 with_reducible repeat' refine Z9 ?_ ?_
 all_goals as_aux_lemma=>kernel_rfl
end Go.Proofs.YtjgbnaihpicpgabGreat
namespace Go.Proofs.YtjgbnaihpicpgabGreat
open Go oq Go.ChangeShapes Go.WideShapes Go.ChangeAt Go.RowKit
theorem fnExactTwoProof_proved:Rows.FnExactTwoProofSaid:=
 OpenClaim.holds_of_wide 3 Tryz.f3 rfl rfl rfl rfl rfl rfl rfl ⟨rfl,rfl,rfl,rfl,rfl⟩ rfl rfl rfl rfl rfl (by kernel_rfl) Tryz.func3 V3
  (fh (by kernel_rfl)) (by unfold Func.isWrapper;first|(rw[ah (by decide +kernel)];kernel_rfl)|(rw[aj (by decide +kernel)];exact⟨rfl,rfl⟩))
  (fun os started H enc _=>AM os started H enc)
end Go.Proofs.YtjgbnaihpicpgabGreat
