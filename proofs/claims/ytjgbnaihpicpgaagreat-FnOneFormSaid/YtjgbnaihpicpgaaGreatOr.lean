/- A part of the proof about FnOneForm (VU, OG, Jx, Jy). -/
import Derived.Test.YtjgbnaihpicpgaaGreatOd
import Derived.Test.YtjgbnaihpicpgaaGreatOm
import Derived.Test.YtjgbnaihpicpgaaGreatOq
import Derived.ProofKit
import Derived.OpenShut
import Derived.Below
import Derived.Carry
import Derived.Test.YtjgbnaihpicpgaaGreatRows
set_option linter.all false
namespace Go.Proofs.YtjgbnaihpicpgaaGreat
open Go ng Tm
open Un hiding Bd
theorem Wj(a:Int):0<=D8 .u64 a 16777215/\D8 .u64 a 16777215<=16777215:=by
 unfold D8;have h:(BitVec.ofInt IntKind.u64.bits a &&& BitVec.ofInt IntKind.u64.bits 16777215).toNat<=16777215:=by
  rw[BitVec.toNat_and];exact cp Nat.and_le_right (by decide)
 generalize(BitVec.ofInt IntKind.u64.bits a &&& BitVec.ofInt IntKind.u64.bits 16777215).toNat=x at h;have e:IntKind.u64.wrap (x:Int)=x:=by rw[IntKind.wrap_u64];omega
 rw[e];omega
def MC(d0:gB):Prop:=∀x∈d0,0<=x/\x<256
theorem MU{n d1 d2:Int}{d0:gB}(hb:MC d0)(hl:d0.length<=4096)(hn:1<=n)(h1:0<=d1):∃x i h,iJ n d0 d1 d2=some (x,i,h)/\0<=x/\x<n/\0<=i:=by
 unfold iJ;have ha:=Wj (Hi .u64 (IntKind.u64.wrap ((IntKind.u64.wrap (d2*6364136223846793005))+1442695040888963407)) 33);generalize D8 .u64 (Hi .u64 (IntKind.u64.wrap ((IntKind.u64.wrap (d2*6364136223846793005))+1442695040888963407)) 33) 16777215=a at ha;have hw:IntKind.i64.wrap a=a:=lz h_ h_;rw[hw];by_cases hlt:d1<d0.length
 ·obtain⟨i,rfl⟩:=fo h1;have hlt':i<d0.length:=by omega
  have hx:=hb _ (jB hlt');rw[ah (by simpa using hlt'),ah h_,ah h_,au];generalize d0.getD i default=y at hx;rw[lz (n:=y) h_ h_,lz (n:=a+y) h_ h_,lz (n:=(i:Int)+1) h_ h_];exact⟨_,_,_,rfl,Int.tmod_nonneg _ h_,Int.tmod_lt_of_pos _ h_,h_⟩
 ·rw[aj (by simpa using hlt),ah h_];exact⟨_,_,_,rfl,Int.tmod_nonneg _ h_,Int.tmod_lt_of_pos _ h_,h_⟩
theorem rS{t:Prop}{n d1 d2:Int}{d0:gB}(hb:MC d0)(hl:d0.length<=4096)(hn:1<=n)(h1:0<=d1):jN t (iJ n d0 d1 d2) fun q=>0<=q.1/\q.1<n/\0<=q.2.1:=by
 obtain⟨x,i,h,e,h2⟩:=MU (d2:=d2) hb hl hn h1;exact .of e h2
theorem RS{code:gB}(hl:code.length<=4096)(seed:Int):∃h,sv code seed=some (code,0,h):=by
 have:jN True (sv code seed) fun q=>q.1=code/\q.2.1=0:=by
  unfold sv;refine jN.loop (fun q:Int×Int=>∃i:Nat,q.1=(i:Int)/\i<=code.length) (fun q:Int×Int=>code.length-q.1.toNat) ⟨0,rfl,h_⟩ ?_;rintro⟨_,o⟩ ⟨i,rfl,hi⟩;unfold ve;by_cases hlt:i<code.length
  ·simp only[show(i:Int)<code.length by omega,aQ,aC,show(0:Int)<=i by omega,bE,lz (n:=(i:Int)+1) h_ h_];exact .some ⟨⟨i+1,by simp,h_⟩,by simp;omega⟩
  ·simp only[show ¬(i:Int)<code.length by omega,aU,ak,aB,aM];exact .some ⟨rfl,rfl⟩
 obtain⟨⟨a,b,h⟩,e,h1,h2⟩:=this.get;simp only at h1 h2;exact⟨h,by rw[e,h1,h2]⟩
abbrev Wh(m:Nat)(q:gB×Int×Int):Prop:=1<=q.1.length/\q.1.length+1<=2^m/\0<=q.2.1
theorem Ss{d0:gB}{m:Nat}{T:Prop}{rec:Int->Int->Option gH}(hm:m<=2)(hr:∀a b,0<=a->jN T (rec a b) (Wh m)){x d d1:Int}(hx:0<=x/\x<3)(hd:0<=d):
 ∀{f:gX->Option (gX⊕gH)},(∀o k a b,f (o,k,a,b)=if(decide (k<2))=true then(rec a b).bind fun r=>if(o.length+r.1.length)*8<=140737488355328 then some (.inl ((o++r.1),(IntKind.i64.wrap (k+1)),r.2.1,r.2.2))else none else Option.map Sum.inr (some (o,a,b)))->
 jN T (iB f ([x],x,d,d1)) (Wh (m+1)):=by
 intro f hf;have hp:1<=2^m:=Nat.one_le_two_pow;have hp2:2^m<=4:=cp (Nat.pow_le_pow_right (by decide) hm) (by decide);refine jN.loop (fun q:gB×Int×Int×Int=>0<=q.2.1/\q.2.1<3/\1<=q.1.length/\q.1.length<=1+q.2.1.toNat*(2^m-1)/\0<=q.2.2.1) (fun q:gB×Int×Int×Int=>3-q.2.1.toNat) ⟨hx.1,hx.2,by simp,by simp,hd⟩ ?_;rintro⟨o,k,a,b⟩ ⟨h0,h3,h4,h5,h6⟩;simp only at h0 h3 h4 h5 h6;rw[hf];obtain⟨k,rfl⟩:=fo h0;rw[au]at h5;have hk:k<3:=by omega
 have hmul:k*(2^m-1)<=2*(2^m-1):=cM _ h_;by_cases c:(k:Int)<2
 ·rw[ah (by simpa using c)];refine jN.bind (hr a b h6) fun r ⟨r1,r2,r3⟩=>?_
  rw[ah h_,lz h_ h_];refine .some ⟨⟨by simp only;omega,by simp only;omega,by simp only[ai];omega,?_,r3⟩,?_⟩
  ·simp only[ai];rw[show((k:Int)+1).toNat=k+1 by omega,bQ,Nat.one_mul];omega
  ·simp only;omega
 ·rw[aj (by simpa using c),aM];refine .some ⟨h4,?_,h6⟩;simp only;rw[Nat.pow_succ];omega
theorem ER{vars:Int}(hv:0<vars){d0:gB}(hb:MC d0)(hl:d0.length<=4096):∀(fu:Nat){m:Nat}{d1 d2:Int},1<=m->m<=3->0<=d1->jN (m<=fu) (lZ fu (m:Int) vars d0 d1 d2) (Wh m)
 |0,m,d1,d2,hm,h3,h1=>⟨fun a h=>(by cases h),fun h=>h_⟩
 |fu+1,m,d1,d2,hm,h3,h1=>by
  have hp:2<=2^m:=by
   obtain⟨p,rfl⟩:∃p,m=p+1:=⟨m-1,h_⟩;have:1<=2^p:=Nat.one_le_two_pow;rw[Nat.pow_succ];omega
  unfold lZ;rw[ah (by simpa using hv)];refine jN.bind (rS hb hl (by decide) h1) fun r ⟨r1,r2,r3⟩=>?_
  refine jN.ite (fun _=>?_) fun _=>?_
  ·refine jN.bind (rS hb hl h_ r3) fun u ⟨u1,u2,u3⟩=>?_
   exact .some ⟨by simp,by simpa using hp,u3⟩
  refine jN.bind (rS hb hl (by decide) r3) fun u ⟨u1,u2,u3⟩=>?_
  by_cases c:m<=1
  ·rw[ah (by simpa using(by omega:(m:Int)<=1))];rw[iL (b:=([2],u.2.1,u.2.2)) (by rfl)];exact .some ⟨by simp,by simpa using hp,u3⟩
  ·rw[aj (by simpa using(by omega:1<(m:Int)))];obtain⟨p,rfl⟩:∃p,m=p+1:=⟨m-1,h_⟩;have hw:IntKind.i64.wrap (((p+1:Nat):Int)-1)=(p:Int):=by rw[lz h_ h_];omega
   refine Ss (m:=p) (d0:=d0) (rec:=fun a b=>lZ fu (p:Int) vars d0 a b) h_ (fun a b ha=>(ER hv hb hl fu (m:=p) h_ h_ ha).weak h_) ⟨u1,u2⟩ u3 fun o k a b=>?_
   rw[tO,hw]
theorem yT{vars:Int}(hv:0<vars){d0:gB}(hb:MC d0)(hl:d0.length<=4096){m:Nat}{d1 d2:Int}{t:Prop}(hm:1<=m)(h3:m<=3)(h1:0<=d1):jN t (jF (m:Int) vars d0 d1 d2) (Wh m):=
 (jN.V2 (t:=True) m fun n=>ER hv hb hl n (m:=m) (d1:=d1) (d2:=d2) hm h3 h1).weak fun _=>trivial
theorem B9{d0:gB}(hb:MC d0)(hl:d0.length<=4096){d1 d2:Int}{t:Prop}(h1:0<=d1):jN t (nZ 3 2 d0 d1 d2) (Wh 3):=by
 refine(jN.V2 (t:=True) 1 fun n=>?_).weak fun _=>trivial
 cases n with
 |zero=>exact⟨fun a h=>(by cases h),fun h=>h_⟩
 |succ fu=>
  rw[oF,ah (by decide)];refine jN.bind (rS hb hl (by decide) h1) fun r ⟨r1,r2,r3⟩=>?_
  refine jN.ite (fun _=>?_) fun _=>?_
  ·refine jN.bind (rS hb hl (by decide) r3) fun u ⟨u1,u2,u3⟩=>?_
   exact .some ⟨by simp,by simp,u3⟩
  refine jN.bind (rS hb hl (by decide) r3) fun u ⟨u1,u2,u3⟩=>?_
  rw[aj (by decide)];refine jN.loop (fun q:Int×Int×Int×gB=>0<=q.1/\q.1<3/\1<=q.2.2.2.length/\q.2.2.2.length<=1+q.1.toNat*3/\0<=q.2.1) (fun q:Int×Int×Int×gB=>3-q.1.toNat) ⟨u1,u2,by simp,by simp,u3⟩ ?_;rintro⟨k,a,b,o⟩ ⟨h0,h3,h4,h5,h6⟩;simp only at h0 h3 h4 h5 h6;unfold q_;dsimp only;by_cases c:k<2
  ·rw[ah (by simpa using c),show IntKind.i64.wrap (3-1)=((2:Nat):Int)from rfl];refine jN.bind (yT (by decide) hb hl (by decide) (by decide) h6) fun r ⟨r1,r2,r3⟩=>?_
   rw[ah h_,lz h_ h_];exact .some ⟨⟨by simp only;omega,by simp only;omega,by simp only[ai];omega,by simp only[ai];omega,r3⟩,by simp only;omega⟩
  ·rw[aj (by simpa using c),aM];exact .some ⟨h4,by simp only;omega,h6⟩
theorem UT{l:gB}{n:Int}{t:Prop}(hl:l.length<=1000):jN t (rF l n) fun r=>r.length<=l.length+1:=by
 unfold rF;refine jN.loop (fun q:Int=>0<=q/\q<=l.length) (fun q:Int=>l.length-q.toNat) ⟨h_,h_⟩ ?_;rintro k ⟨h0,h1⟩;have put:jN t (if 0<=k/\k<=(l.length:Int)then(jK (l.take k.toNat)).bind fun r=>if(r.length+1)*8<=140737488355328 then if 0<=k/\k<=(l.length:Int)then if((r++[n]).length+(l.drop k.toNat).length)*8<=140737488355328 then some ((r++[n])++(l.drop k.toNat))else none else none else none else none) fun r=>r.length<=l.length+1:=by
  have hlt:(l.take k.toNat).length<=l.length:=by rw[bY];omega
  have hld:(l.drop k.toNat).length<=l.length:=by rw[cG];omega
  rw[ah ⟨h0,h1⟩,m_ (by show List.length _<_;omega),aa,ah h_,ah ⟨h0,h1⟩,ah (by simp only[ai,aX];omega)];refine .some ?_;simp only[ai,aX,bY,cG];omega
 have fin:jN t (if(decide (k<(l.length:Int)))=true then if 0<=k/\k<(l.length:Int)then if((l.getD k.toNat default)==n)=true then some l else if 0<=k/\k<=(l.length:Int)then(jK (l.take k.toNat)).bind fun r=>if(r.length+1)*8<=140737488355328 then if 0<=k/\k<=(l.length:Int)then if((r++[n]).length+(l.drop k.toNat).length)*8<=140737488355328 then some ((r++[n])++(l.drop k.toNat))else none else none else none else none else none else if 0<=k/\k<=(l.length:Int)then(jK (l.take k.toNat)).bind fun r=>if(r.length+1)*8<=140737488355328 then if 0<=k/\k<=(l.length:Int)then if((r++[n]).length+(l.drop k.toNat).length)*8<=140737488355328 then some ((r++[n])++(l.drop k.toNat))else none else none else none else none) fun r=>r.length<=l.length+1:=by
  by_cases c:k<l.length
  ·rw[ah (by simpa using c),ah ⟨h0,c⟩];refine jN.ite (fun _=>.some h_) fun _=>put
  ·rw[aj (by simpa using c)];exact put
 unfold tP;by_cases c:k<l.length
 ·rw[ah (by simpa using c),ah ⟨h0,c⟩];refine jN.ite (fun _=>?_) fun _=>fin.inr
  rw[lz h_ h_];exact .some ⟨⟨h_,h_⟩,by dsimp only;omega⟩
 ·rw[aj (by simpa using c)];exact fin.inr
theorem Po{a t:gB}{T:Prop}(hl:t.length<=60):jN T (pY a t) fun r=>r.length<=60:=by
 unfold pY;rw[oG,aa];refine jN.ite (fun _=>?_) fun _=>.some (by simp)
 refine jN.bind (P:=fun r=>r.length<=60) ?_ fun r hr=>.some hr
 unfold tY;refine jN.loop (fun q:gB×Int=>0<=q.2/\q.2<=t.length/\q.1.length<=q.2.toNat) (fun q:gB×Int=>t.length-q.2.toNat) ⟨by simp,by simp,by simp⟩ ?_;rintro⟨o,i⟩ ⟨h0,h1,h2⟩;simp only at h0 h1 h2;unfold tQ;dsimp only;by_cases c:i<t.length
 ·rw[ah (by simpa using c)];have hc:0<=i/\i<(t.length:Int):=⟨h0,c⟩;simp only[ah hc,lz (n:=i+1) h_ h_];refine jN.ite (fun _=>?_) fun _=>?_
  ·refine jN.bind (UT h_) fun r hr=>?_
   exact .some ⟨⟨by simp only;omega,by simp only;omega,by simp only;omega⟩,by simp only;omega⟩
  ·exact .some ⟨⟨by simp only;omega,by simp only;omega,by simp only;omega⟩,by simp only;omega⟩
 ·rw[aj (by simpa using c),aM];exact .some (by show o.length<=60;omega)
theorem RW{d0:gB}(hb:MC d0)(hl:d0.length<=4096){T:Prop}{r2 r3 r6:gB×Int×Int}{r5:gB}(h6:r6.1.length<=60)(hd:0<=r6.2.1):jN T (iB (qI d0 r2 r3 r5) (0,r6.2.1,r6.2.2,r6.1)) fun q=>0<=q.2.1:=by
 refine jN.loop (fun q:Int×Int×Int×gB=>0<=q.1/\q.1<=q.2.2.2.length/\q.2.2.2.length<=60/\0<=q.2.1) (fun q:Int×Int×Int×gB=>q.2.2.2.length-q.1.toNat) ⟨by simp,by simp,h6,hd⟩ ?_;rintro⟨i,d,d1,g⟩ ⟨h0,h1,h2,h3⟩;simp only at h0 h1 h2 h3;unfold qI;dsimp only;by_cases c:i<g.length
 ·rw[ah (by simpa using c)];have hc:0<=i/\i<(g.length:Int):=⟨h0,c⟩;simp only[ah hc,lz (n:=i+1) h_ h_];have nx:∀{d d1:Int}{g':gB},g'.length=g.length->0<=d->jN T (some (.inl (i+1,d,d1,g')):Option (gS⊕(gD×Int×Int))) (yc (fun q:Int×Int×Int×gB=>0<=q.1/\q.1<=q.2.2.2.length/\q.2.2.2.length<=60/\0<=q.2.1) (fun q:Int×Int×Int×gB=>q.2.2.2.length-q.1.toNat) (fun q:gD×Int×Int=>0<=q.2.1) (g.length-i.toNat)):=fun{d d1 g'} hg hd=>.some ⟨⟨by simp only;omega,by simp only;omega,by simp only;omega,hd⟩,by simp only;omega⟩
  by_cases c1:g.getD i.toNat default<0
  ·simp only[c1,aQ,aC];by_cases c2:r5.length=0
   ·rw[ah (by simp[c2])];exact nx (by simp) h3
   ·rw[aj (by simpa using c2)];refine jN.bind (rS hb hl h_ h3) fun u ⟨u1,u2,u3⟩=>?_
    rw[ah ⟨u1,u2⟩];exact nx (by simp) u3
  ·simp only[c1,aU,ak,aB];exact nx rfl h3
 ·rw[aj (by simpa using c),aM];exact .some h3
theorem RX{d0:gB}(hb:MC d0)(hl:d0.length<=4096){T:Prop}{r r6:gB×Int×Int}{r5:gB}(h6:r6.1.length<=60)(hd:0<=r6.2.1):jN T (iB (qJ d0 r r5) (0,r6.2.1,r6.2.2,r6.1)) fun q=>0<=q.2.1:=by
 refine jN.loop (fun q:Int×Int×Int×gB=>0<=q.1/\q.1<=q.2.2.2.length/\q.2.2.2.length<=60/\0<=q.2.1) (fun q:Int×Int×Int×gB=>q.2.2.2.length-q.1.toNat) ⟨by simp,by simp,h6,hd⟩ ?_;rintro⟨i,d,d1,g⟩ ⟨h0,h1,h2,h3⟩;simp only at h0 h1 h2 h3;unfold qJ;dsimp only;by_cases c:i<g.length
 ·rw[ah (by simpa using c)];have hc:0<=i/\i<(g.length:Int):=⟨h0,c⟩;simp only[ah hc,lz (n:=i+1) h_ h_];have nx:∀{d d1:Int}{g':gB},g'.length=g.length->0<=d->jN T (some (.inl (i+1,d,d1,g')):Option (gS⊕(gD×Int×Int))) (yc (fun q:Int×Int×Int×gB=>0<=q.1/\q.1<=q.2.2.2.length/\q.2.2.2.length<=60/\0<=q.2.1) (fun q:Int×Int×Int×gB=>q.2.2.2.length-q.1.toNat) (fun q:gD×Int×Int=>0<=q.2.1) (g.length-i.toNat)):=fun{d d1 g'} hg hd=>.some ⟨⟨by simp only;omega,by simp only;omega,by simp only;omega,hd⟩,by simp only;omega⟩
  by_cases c1:g.getD i.toNat default<0
  ·simp only[c1,aQ,aC];by_cases c2:r5.length=0
   ·rw[ah (by simp[c2])];exact nx (by simp) h3
   ·rw[aj (by simpa using c2)];refine jN.bind (rS hb hl h_ h3) fun u ⟨u1,u2,u3⟩=>?_
    rw[ah ⟨u1,u2⟩];exact nx (by simp) u3
  ·simp only[c1,aU,ak,aB];exact nx rfl h3
 ·rw[aj (by simpa using c),aM];exact .some h3
theorem PA{d0:gB}(hb:MC d0)(hl:d0.length<=4096){d1 d2:Int}{t:Prop}(h1:0<=d1):jN t (rB d0 d1 d2) fun q=>0<=q.2.1:=by
 unfold rB;refine jN.bind (yT (by decide) (m:=2) hb hl (by decide) (by decide) h1) fun r ⟨r1,r2,r3⟩=>?_
 rw[ah h_];refine jN.bind (rS hb hl (by decide) r3) fun u ⟨u1,u2,u3⟩=>?_
 refine jN.ite (fun _=>?_) fun _=>?_
 ·refine jN.bind (yT (by decide) (m:=2) hb hl (by decide) (by decide) u3) fun v ⟨v1,v2,v3⟩=>?_
  rw[ah h_];refine jN.bind (yT (by decide) (m:=1) hb hl (by decide) (by decide) v3) fun w ⟨w1,w2,w3⟩=>?_
  rw[ah (by simp only[ai,aX];omega),show nY=some [2,1,0]from rfl,aa];refine jN.bind (Po (by simp only[ai,aX];omega)) fun x hx=>?_
  refine jN.bind (B9 hb hl w3) fun y ⟨y1,y2,y3⟩=>?_
  exact RW hb hl h_ y3
 ·rw[show nY=some [2,1,0]from rfl,aa];refine jN.bind (Po (by simp only[ai,aX];omega)) fun x hx=>?_
  refine jN.bind (B9 hb hl u3) fun y ⟨y1,y2,y3⟩=>?_
  exact RX hb hl h_ y3
theorem Jr{d0:gB}(hb:MC d0)(hl:d0.length<=4096){d1 d2:Int}{t:Prop}(h1:0<=d1):jN t (pR d0 d1 d2) fun q=>0<=q.2.1/\q.1.1=[2,1,0]:=by
 unfold pR;rw[show nY=some [2,1,0]from rfl,aa];refine jN.bind (rS hb hl (by decide) h1) fun u ⟨u1,u2,u3⟩=>?_
 refine jN.ite (fun _=>?_) fun _=>?_
 ·refine jN.bind (rS hb hl (by decide) u3) fun v ⟨v1,v2,v3⟩=>?_
  refine jN.bind (P:=fun _=>True) ?_ fun w _=>.some ⟨v3,rfl⟩
  unfold sN;exact jN.ite (fun _=>.some trivial) fun _=>jN.ite (fun _=>.some trivial) fun _=>jN.ite (fun _=>.some trivial) fun _=>jN.ite (fun _=>.some trivial) fun _=>jN.ite (fun _=>.some trivial) fun _=>.some trivial
 ·refine jN.bind (rS hb hl (by decide) u3) fun v ⟨v1,v2,v3⟩=>?_
  refine jN.loop (fun q:Int×Int×Int×List gD=>0<=q.1/\q.1<=3/\q.2.2.2.length+q.1.toNat<=3/\0<=q.2.1) (fun q:Int×Int×Int×List gD=>q.1.toNat) ⟨by simp only;rw[lz h_ h_];omega,by simp only;rw[lz h_ h_];omega,by simp only[bL];rw[lz h_ h_];omega,v3⟩ ?_;rintro⟨k,d,d1,s⟩ ⟨h0,h1,h2,h3⟩;simp only at h0 h1 h2 h3;unfold rX;dsimp only;by_cases c:0<k
  ·rw[ah (by simpa using c)];refine jN.bind (PA hb hl h3) fun r hr=>?_
   rw[ah h_,lz h_ h_];exact .some ⟨⟨by simp only;omega,by simp only;omega,by simp only[ai,aX];omega,hr⟩,by simp only;omega⟩
  ·rw[aj (by simpa using c),aM];exact .some ⟨h3,rfl⟩
theorem F3{s:Sys}{p q:Pk->Bool}(h:∀y∈(DD s).1,jR s=true->p y=true->q y=true)(hp:DZ s p=true):DZ s q=true:=by
 unfold DZ at hp⊢;simp only[a_]at hp⊢;exact⟨hp.1,hp.2.1,bN.2 fun y hy=>h y hy (Du hp.1) (bN.1 hp.2.2 y hy)⟩
theorem Q9{code:gB}(hb:MC code):qH code=some true:=by
 unfold qH xh;rw[aa];by_cases hbig:4096<code.length
 ·rw[ah (by simpa using(by omega:(4096:Int)<code.length))]
 rw[aj (by simpa using(by omega:(code.length:Int)<=4096))];have hl:code.length<=4096:=by omega
 obtain⟨h0,e0⟩:=RS hl 955;rw[e0,aa];obtain⟨⟨sys,i,h⟩,e1,hi,ha⟩:=(Jr (d2:=h0) (t:=True) hb hl (eB 0)).get;simp only at hi ha⊢;rw[e1,aa];simp only;obtain⟨⟨t,j,g⟩,e2,_⟩:=(yT (vars:=1) (by decide) (m:=3) (d2:=h) (t:=True) hb hl (by decide) (by decide) hi).get;have e2':jF 3 1 code i h=some (t,j,g):=e2;have hOW:DZ sys (fun _=>false)=true->DZ sys (fun y=>y.2.1==y.2.2.1)=true:=F3 fun y _ _ h=>by cases h
 have hWK:DZ sys (fun y=>y.2.1==y.2.2.1)=true->DZ sys (fun y=>qj sys y.2.1 y.2.2.1)=true:=F3 fun y hy hs h=>by
  have k1:=(yF hs hy).1;rw[<-bw.1 h];obtain⟨x,p,e,_⟩:=(ij.1 k1).2.2.2.pos;rw[e]at k1⊢;rw[xE (jO.1 hs).1 k1 k1];simp
 have hK:DZ sys (fun y=>qj sys y.2.1 y.2.2.1)=true->decide (((V4 sys t 5).length:Int)<=1)=true:=fun hc=>by
  have hs:=Du (by unfold DZ at hc;simp only[a_]at hc;exact hc.1);have:=Vd hs ha (Lf hs ha hc) (t:=t) (steps:=5);rw[av];omega
 simp only[xe,zQ,zO,zT,e2',zn,aa];generalize DZ sys (fun _=>false)=O at *;generalize DZ sys (fun y=>y.2.1==y.2.2.1)=W at *;generalize DZ sys (fun y=>qj sys y.2.1 y.2.2.1)=K at *;generalize decide (((V4 sys t 5).length:Int)<=1)=D at *;cases O<;>cases W<;>cases K<;>simp_all
theorem Fb{code:gB}(hb:MC code):jW Tryz.prog 3 [(iq 1 (kD .u8)) code] (bD true):=Bt.c (Q9 hb)
end Go.Proofs.YtjgbnaihpicpgaaGreat
namespace Go.Proofs.YtjgbnaihpicpgaaGreat
open Go ng Go.ChangeShapes Go.WideShapes Go.ChangeAt Go.RowKit
abbrev Sz:ng.Own:=fun _ _=>False
theorem G4{P:Program}{f:Nat}{ds:List D}{r:D}(h:jW P f ds r){W:World}{vs:Array Value}(h1:∀v∈vs.toList,True)(hd:AV.iP (fun _=>.no) Sz W (ds.map .d) vs.toList):
 Calls P f vs W fun e W'=>(∃u,e=.returned u/\D.ok Sz W' r u)/\Below W.heap.size W W':=by
 have no:∀(b o:Nat),¬({O:=fun _ _=>False,β:=fun _=>.no,s:=[],w:=W,k:=0}:Ctx).iz (fun _=>.no) [] b o:=fun b o h=>by
  rcases h with h|⟨i,h⟩
  ·exact h
  ·exact h
 have hI:Inv {O:=fun _ _=>False,β:=fun _=>.no,s:=[],w:=W,k:=0} (fun _=>.no) [] W:=
  ⟨aA _,rfl,fun _ _ _ h _=>h,fun _ _ _=>rfl,fun _ _ h=>.inl h,fun id b h=>.inl ⟨id,h⟩,fun _ h=>absurd h (gr _),fun _ _ h=>h.elim,fun _=>rfl,fun _ _ _ h=>h.elim⟩
 have ha:AV.iP (fun _=>.no) (({O:=fun _ _=>False,β:=fun _=>.no,s:=[],w:=W,k:=0}:Ctx).iz (fun _=>.no) []) W (ds.map .d) vs.toList:=by
  have e:(({O:=fun _ _=>False,β:=fun _=>.no,s:=[],w:=W,k:=0}:Ctx).iz (fun _=>.no) [])=Sz:=by
   funext b o;exact propext ⟨fun h=>no b o h,fun h=>h.elim⟩
  rw[e];exact hd
 refine(h {O:=fun _ _=>False,β:=fun _=>.no,s:=[],w:=W,k:=0} vs rfl rfl hI ha).mono fun e W' hq=>?_
 obtain⟨u,x,β',s',rfl,hi,hx,rfl⟩:=hq;simp only[AV.ok]at hx;refine⟨⟨u,rfl,D.jY (fun b o v hc _=>⟨hc,fun h=>h⟩) _ _ hx⟩,?_⟩;have hio:=hi.io;simp only[zC,dX]at hio;exact⟨hio.1,hio.2.2,hio.2.1,hi.size,fun k hk=>hi.qN k hk fun id h=>h⟩
theorem FZ{b o i:Nat}:Addr.add ⟨b,o,none⟩ i=⟨b,o+i,none⟩:=by
 by_cases h:i=0
 ·simp[Addr.add,h]
 ·simp[Addr.add,h]
def Rd(P:Program)(t:TypeId)(e:Nat){α:Type}(f:α->D)(G:α->Prop):Prop:=
 P.cellsOf t=e/\∀{H:Type}{enc:TypeId×Value->H}{w:World}{spare:Nat->Bool}{held:Bool}{n:Nat}{cs:List Value}{x:DataW H×List MemPlace},
  DataW.trod enc P w 0 spare held n t cs=some x->∃y,G y/\cs.length=e/\(∀v∈cs,ng.one v=true)/\D.iP Sz w (iy (f y)) cs
theorem ow{O:ng.Own}{w:World}:∀{xs ys:List D}{us vs:List Value},D.iP O w xs us->D.iP O w ys vs->D.iP O w (xs++ys) (us++vs)
 |[],_,us,_,h,h2=>by simp only[D.iP]at h;subst h;exact h2
 |x::xs,_,us,_,h,h2=>by
  simp only[D.iP]at h;obtain⟨v,r,rfl,h1,h3,h4⟩:=h;simp only[bC,D.iP];exact⟨v,_,rfl,h1,h3,ow h4 h2⟩
theorem Rd.Z1{P:Program}{t:TypeId}{k:IntKind}(ht:P.underlying t=some (.int k))(hm:P.cellsOf t=1):Rd P t 1 (kD k) (fun x=>(Lit.int k x).wf=true):=⟨hm,fun{H enc w spare held n cs x} hx=>by
 obtain⟨m,hm⟩:=DataW.trod_int ht hx;obtain⟨rfl,_,hw⟩:=hm;exact⟨m,hw,rfl,by simp[ng.one],⟨_,_,rfl,rfl,⟨rfl,rfl⟩,rfl⟩⟩⟩
abbrev Ue{α:Type}(xs:List α):Prop:=xs.length<9223372036854775808
theorem Rd.slice{P:Program}{t e:TypeId}{k:Nat}{α:Type}{f:α->D}{G:α->Prop}[xd f k](ht:P.underlying t=some (.slice e))(hm:P.cellsOf t=1)(hk:0<k)(h:Rd P e k f G)(hcel:∀y O w vs,D.iP O w (iy (f y)) vs->D.HL O w (f y) vs):
 Rd P t 1 (iq k f) (fun xs=>Ue xs/\∀x∈xs,G x):=⟨hm,fun{H enc w spare held n cs x} hx=>by
 rcases DataW.trod_slice ht hx with⟨rfl,_⟩|⟨a,len,cap,elems,rest,n',rfl,rfl,_,_,hl,hmx,hlen,hel,_,_⟩
 ·refine⟨[],⟨by show(0:Nat)<9223372036854775808;decide,fun x hx=>(gb hx).elim⟩,rfl,by simp[ng.one],⟨_,_,rfl,rfl,?_,rfl⟩⟩;simp only[iq,D.ok];exact⟨none,0,rfl,⟨aA _,by decide⟩,trivial,.inl rfl⟩
 ·have hmx':cap<9223372036854775808:=by have:maxLen=2^63-1:=rfl;omega
  have each:∀i,i<len->∃y vs,G y/\vs.length=k/\(∀v∈vs,ng.one v=true)/\D.iP Sz w (iy (f y)) vs/\∀j,j<k->w.cell? ((a.add (i*k)).add j)=vs[j]?:=by
   intro i hi;have h1:=hel i hi;rw[h.1,az (show i<elems.length by omega),aq]at h1;obtain⟨vs,h2,h3⟩:=h1;obtain⟨y,g1,g2,g3,g4⟩:=h.2 h3;obtain⟨_,_,h5⟩:=World.cells?_some h2;exact⟨y,vs,g1,g2,g3,g4,h5⟩
  rcases fO len with h0|hpos
  ·subst h0;refine⟨[],⟨by show(0:Nat)<9223372036854775808;decide,fun x hx=>(gb hx).elim⟩,rfl,by simp[ng.one],⟨_,_,rfl,rfl,?_,rfl⟩⟩;simp only[iq,D.ok];exact⟨some a,cap,rfl,⟨hl,hmx'⟩,trivial,.inl rfl⟩
  have hs:a.spot=none:=by
   obtain⟨y,vs,_,g2,_,_,g5⟩:=each 0 hpos;have h0:=g5 0 hk;rw[az (show 0<vs.length by omega)]at h0;have:=World.cell?_spot h0;simpa[Addr.add]using this
  obtain⟨b,o,sp⟩:=a;simp only at hs;subst hs;have key:∀(m i:Nat),i+m=len->∃ys:List α,ys.length=m/\(∀y∈ys,G y)/\D.row Sz w b (o+i*k) k (ys.map f):=by
   intro m;induction m with
   |zero=>intro i _;exact⟨[],rfl,fun y hy=>(gb hy).elim,by simp[D.row]⟩
   |succ m ih=>
    intro i hi;obtain⟨ys,y1,y2,y4⟩:=ih (i+1) h_;obtain⟨y,vs,g1,g2,g3,g4,g5⟩:=each i h_;refine⟨y::ys,by simp[y1],fun z hz=>?_,?_⟩
    ·rcases bu.1 hz with rfl|hz
     ·exact g1
     ·exact y2 z hz
    ·rw[aO];refine D.mQ.2 ⟨⟨vs,g2,fun j v hj=>?_,hcel _ _ _ _ g4⟩,?_⟩
     ·have hjk:j<k:=by rw[<-g2];exact(aN.1 hj).1
      have:=g5 j hjk;rw[hj]at this;refine⟨?_,fun h=>h,g3 v (bO hj)⟩;rw[<-this,FZ,FZ]
     ·have:=y4;rwa [bQ,Nat.one_mul,<-c_]at this
  obtain⟨ys,y1,y2,y4⟩:=key len 0 h_;refine⟨ys,⟨by show ys.length<9223372036854775808;omega,y2⟩,rfl,by simp[ng.one],⟨_,_,rfl,rfl,?_,rfl⟩⟩;simp only[iq,D.ok];refine⟨some ⟨b,o,none⟩,cap,by rw[aT,y1],⟨by rw[aT];omega,h_⟩,trivial,?_⟩;exact .inr ⟨b,o,rfl,by simpa using y4⟩⟩
theorem Rd.cell{P:Program}{t:TypeId}{α:Type}{f:α->D}{G:α->Prop}(hr:Rd P t 1 f G)(hf:∀y,iy (f y)=[f y]){W:World}{v:Value}(hv:v.cells=#[v])
 {H:Type} {enc:TypeId×Value->H} {spare:Nat->Bool} {held:Bool} {d:DataW H} {p:List MemPlace} (h:DataW.Trod enc P W 0 spare held t v d p):∃y,G y/\D.ok Sz W (f y) v:=by
 obtain⟨fuel,hf'⟩:=h;obtain⟨y,g1,g2,g3,g4⟩:=hr.2 hf';refine⟨y,g1,?_⟩;rw[hf,hv]at g4;simp only[D.iP]at g4;obtain⟨u,r,e,_,g5,_⟩:=g4;simp at e;rw[e.1];exact g5
theorem aag:ownKnob Tryz.prog.godebug=none:=by kernel_rfl
theorem XD:laidOutB Tryz.prog=true:=by kernel_rfl
theorem QF{α:Type}{f:α->D}(hf:∀y,iy (f y)=[f y])(ha:∀y cs,f y≠ .agg cs):∀y O w vs,D.iP O w (iy (f y)) vs->D.HL O w (f y) vs:=fun y O w vs h=>by
 rw[hf]at h;obtain⟨v,r,e,_,h2,h3⟩:=h;have h3':r=[]:=h3;subst h3';have:=ha y;cases hy:f y with
 |agg cs=>exact absurd hy (this cs)
 |_=>rw[hy]at h2;exact⟨v,e,h2⟩
theorem rd5:Rd Tryz.prog 5 1 (kD .u8) (fun x:Int=>(Lit.int .u8 x).wf=true):=Rd.Z1 Tryz.underlying5 (by kernel_rfl)
theorem aaj:Rd Tryz.prog 22 1 (iq 1 (kD .u8)) (fun x:gB=>(Ue x/\∀y0:Int,y0∈x->((Lit.int .u8 y0).wf=true))):=Rd.slice Tryz.underlying22 (by kernel_rfl) (by decide) rd5 (QF (fun _=>rfl) (fun _ _ h=>nomatch h))
end Go.Proofs.YtjgbnaihpicpgaaGreat
