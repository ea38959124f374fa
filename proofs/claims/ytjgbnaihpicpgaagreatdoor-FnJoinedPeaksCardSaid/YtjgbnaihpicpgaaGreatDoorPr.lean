/- A part of the proof about FnJoinedPeaks (VU, VV, Jx, Jy4). -/
import Derived.Test.YtjgbnaihpicpgaaGreatDoorPd
import Derived.Test.YtjgbnaihpicpgaaGreatDoorPm
import Derived.Test.YtjgbnaihpicpgaaGreatDoorPq
import Derived.ProofKit
import Derived.OpenShut
import Derived.Below
import Derived.Handed
import Derived.HandedShaped
import Derived.LaidMore
import Derived.Stop.Joined
import Derived.Shelf.Vars
import Derived.Carry
import Derived.Test.YtjgbnaihpicpgaaGreatDoorRows
set_option linter.all false
namespace Go.Proofs.YtjgbnaihpicpgaaGreatDoor
open Go mm Tm
open Un hiding Bd
theorem Wo(a:Int):0<=Ee .u64 a 16777215/\Ee .u64 a 16777215<=16777215:=by
 unfold Ee;have h:(BitVec.ofInt IntKind.u64.bits a &&& BitVec.ofInt IntKind.u64.bits 16777215).toNat<=16777215:=by
  rw[BitVec.toNat_and];exact cw Nat.and_le_right (by decide)
 generalize(BitVec.ofInt IntKind.u64.bits a &&& BitVec.ofInt IntKind.u64.bits 16777215).toNat=x at h;have e:IntKind.u64.wrap (x:Int)=x:=by rw[IntKind.wrap_u64];omega
 rw[e];omega
def MZ(d0:gv):Prop:=∀x∈d0,0<=x/\x<256
theorem Gp{n d1 d2:Int}{d0:gv}(hb:MZ d0)(hl:d0.length<=4096)(hn:1<=n)(h1:0<=d1):∃x i h,iH n d0 d1 d2=some (x,i,h)/\0<=x/\x<n/\0<=i:=by
 unfold iH;have ha:=Wo (Hy .u64 (IntKind.u64.wrap ((IntKind.u64.wrap (d2*6364136223846793005))+1442695040888963407)) 33);generalize Ee .u64 (Hy .u64 (IntKind.u64.wrap ((IntKind.u64.wrap (d2*6364136223846793005))+1442695040888963407)) 33) 16777215=a at ha;have hw:IntKind.i64.wrap a=a:=lg gY gY;rw[hw];by_cases hlt:d1<d0.length
 ·obtain⟨i,rfl⟩:=fl h1;have hlt':i<d0.length:=by omega
  have hx:=hb _ (jM hlt');rw[ah (by simpa using hlt'),ah gY,ah gY,aq];generalize d0.getD i default=y at hx;rw[lg (n:=y) gY gY,lg (n:=a+y) gY gY,lg (n:=(i:Int)+1) gY gY];exact⟨_,_,_,rfl,Int.tmod_nonneg _ gY,Int.tmod_lt_of_pos _ gY,gY⟩
 ·rw[ak (by simpa using hlt),ah gY];exact⟨_,_,_,rfl,Int.tmod_nonneg _ gY,Int.tmod_lt_of_pos _ gY,gY⟩
theorem rX{t:Prop}{n d1 d2:Int}{d0:gv}(hb:MZ d0)(hl:d0.length<=4096)(hn:1<=n)(h1:0<=d1):jZ t (iH n d0 d1 d2) fun q=>0<=q.1/\q.1<n/\0<=q.2.1:=by
 obtain⟨x,i,h,e,h2⟩:=Gp (d2:=d2) hb hl hn h1;exact .of e h2
theorem Sa{code:gv}(hl:code.length<=4096)(seed:Int):∃h,sA code seed=some (code,0,h):=by
 have:jZ True (sA code seed) fun q=>q.1=code/\q.2.1=0:=by
  unfold sA;refine jZ.loop (fun q:Int×Int=>∃i:Nat,q.1=(i:Int)/\i<=code.length) (fun q:Int×Int=>code.length-q.1.toNat) ⟨0,rfl,gY⟩ ?_;rintro⟨_,o⟩ ⟨i,rfl,hi⟩;unfold vu;by_cases hlt:i<code.length
  ·simp only[show(i:Int)<code.length by omega,aT,aC,show(0:Int)<=i by omega,bK,lg (n:=(i:Int)+1) gY gY];exact .some ⟨⟨i+1,by simp,gY⟩,by simp;omega⟩
  ·simp only[show ¬(i:Int)<code.length by omega,aU,aj,aE,aK];exact .some ⟨rfl,rfl⟩
 obtain⟨⟨a,b,h⟩,e,h1,h2⟩:=this.get;simp only at h1 h2;exact⟨h,by rw[e,h1,h2]⟩
abbrev Wm(m:Nat)(q:gv×Int×Int):Prop:=1<=q.1.length/\q.1.length+1<=2^m/\0<=q.2.1
theorem SG{d0:gv}{m:Nat}{T:Prop}{rec:Int->Int->Option gB}(hm:m<=2)(hr:∀a b,0<=a->jZ T (rec a b) (Wm m)){x d d1:Int}(hx:0<=x/\x<3)(hd:0<=d):
 ∀{f:gT->Option (gT⊕gB)},(∀o k a b,f (o,k,a,b)=if(decide (k<2))=true then(rec a b).bind fun r=>if(o.length+r.1.length)*8<=140737488355328 then some (.inl ((o++r.1),(IntKind.i64.wrap (k+1)),r.2.1,r.2.2))else none else Option.map Sum.inr (some (o,a,b)))->
 jZ T (iw f ([x],x,d,d1)) (Wm (m+1)):=by
 intro f hf;have hp:1<=2^m:=Nat.one_le_two_pow;have hp2:2^m<=4:=cw (Nat.pow_le_pow_right (by decide) hm) (by decide);refine jZ.loop (fun q:gv×Int×Int×Int=>0<=q.2.1/\q.2.1<3/\1<=q.1.length/\q.1.length<=1+q.2.1.toNat*(2^m-1)/\0<=q.2.2.1) (fun q:gv×Int×Int×Int=>3-q.2.1.toNat) ⟨hx.1,hx.2,by simp,by simp,hd⟩ ?_;rintro⟨o,k,a,b⟩ ⟨h0,h3,h4,h5,h6⟩;simp only at h0 h3 h4 h5 h6;rw[hf];obtain⟨k,rfl⟩:=fl h0;rw[aq]at h5;have hk:k<3:=by omega
 have hmul:k*(2^m-1)<=2*(2^m-1):=cS _ gY;by_cases c:(k:Int)<2
 ·rw[ah (by simpa using c)];refine jZ.bind (hr a b h6) fun r ⟨r1,r2,r3⟩=>?_
  rw[ah gY,lg gY gY];refine .some ⟨⟨by simp only;omega,by simp only;omega,by simp only[ai];omega,?_,r3⟩,?_⟩
  ·simp only[ai];rw[show((k:Int)+1).toNat=k+1 by omega,bY,Nat.one_mul];omega
  ·simp only;omega
 ·rw[ak (by simpa using c),aK];refine .some ⟨h4,?_,h6⟩;simp only;rw[Nat.pow_succ];omega
theorem E9{d0:gv}(hb:MZ d0)(hl:d0.length<=4096):∀(fu:Nat){m:Nat}{d1 d2:Int},1<=m->m<=3->0<=d1->jZ (m<=fu) (mo fu (m:Int) 2 d0 d1 d2) (Wm m)
 |0,m,d1,d2,hm,h3,h1=>⟨fun a h=>(by cases h),fun h=>gY⟩
 |fu+1,m,d1,d2,hm,h3,h1=>by
  have hp:2<=2^m:=by
   obtain⟨p,rfl⟩:∃p,m=p+1:=⟨m-1,gY⟩;have:1<=2^p:=Nat.one_le_two_pow;rw[Nat.pow_succ];omega
  unfold mo;rw[ah (by decide)];refine jZ.bind (rX hb hl (by decide) h1) fun r ⟨r1,r2,r3⟩=>?_
  refine jZ.ite (fun _=>?_) fun _=>?_
  ·refine jZ.bind (rX hb hl (by decide) r3) fun u ⟨u1,u2,u3⟩=>?_
   exact .some ⟨by simp,by simpa using hp,u3⟩
  refine jZ.bind (rX hb hl (by decide) r3) fun u ⟨u1,u2,u3⟩=>?_
  by_cases c:m<=1
  ·rw[ah (by simpa using(by omega:(m:Int)<=1))];rw[iz (b:=([2],u.2.1,u.2.2)) (by rfl)];exact .some ⟨by simp,by simpa using hp,u3⟩
  ·rw[ak (by simpa using(by omega:1<(m:Int)))];obtain⟨p,rfl⟩:∃p,m=p+1:=⟨m-1,gY⟩;have hw:IntKind.i64.wrap (((p+1:Nat):Int)-1)=(p:Int):=by rw[lg gY gY];omega
   refine SG (m:=p) (d0:=d0) (rec:=fun a b=>mo fu (p:Int) 2 d0 a b) gY (fun a b ha=>(E9 hb hl fu (m:=p) gY gY ha).weak gY) ⟨u1,u2⟩ u3 fun o k a b=>?_
   rw[tU,hw]
theorem Bh{d0:gv}(hb:MZ d0)(hl:d0.length<=4096){m:Nat}{d1 d2:Int}{t:Prop}(hm:1<=m)(h3:m<=3)(h1:0<=d1):jZ t (lC (m:Int) 2 d0 d1 d2) (Wm m):=
 (jZ.Zo (t:=True) m fun n=>E9 hb hl n (m:=m) (d1:=d1) (d2:=d2) hm h3 h1).weak fun _=>trivial
theorem Cj{d0:gv}(hb:MZ d0)(hl:d0.length<=4096){d1 d2:Int}{t:Prop}(h1:0<=d1):jZ t (ot 3 2 d0 d1 d2) (Wm 3):=by
 refine(jZ.Zo (t:=True) 1 fun n=>?_).weak fun _=>trivial
 cases n with
 |zero=>exact⟨fun a h=>(by cases h),fun h=>gY⟩
 |succ fu=>
  rw[oP,ah (by decide)];refine jZ.bind (rX hb hl (by decide) h1) fun r ⟨r1,r2,r3⟩=>?_
  refine jZ.ite (fun _=>?_) fun _=>?_
  ·refine jZ.bind (rX hb hl (by decide) r3) fun u ⟨u1,u2,u3⟩=>?_
   exact .some ⟨by simp,by simp,u3⟩
  refine jZ.bind (rX hb hl (by decide) r3) fun u ⟨u1,u2,u3⟩=>?_
  rw[ak (by decide)];refine jZ.loop (fun q:Int×Int×Int×gv=>0<=q.1/\q.1<3/\1<=q.2.2.2.length/\q.2.2.2.length<=1+q.1.toNat*3/\0<=q.2.1) (fun q:Int×Int×Int×gv=>3-q.1.toNat) ⟨u1,u2,by simp,by simp,u3⟩ ?_;rintro⟨k,a,b,o⟩ ⟨h0,h3,h4,h5,h6⟩;simp only at h0 h3 h4 h5 h6;unfold rq;dsimp only;by_cases c:k<2
  ·rw[ah (by simpa using c),show IntKind.i64.wrap (3-1)=((2:Nat):Int)from rfl];refine jZ.bind (Bh hb hl (by decide) (by decide) h6) fun r ⟨r1,r2,r3⟩=>?_
   rw[ah gY,lg gY gY];exact .some ⟨⟨by simp only;omega,by simp only;omega,by simp only[ai];omega,by simp only[ai];omega,r3⟩,by simp only;omega⟩
  ·rw[ak (by simpa using c),aK];exact .some ⟨h4,by simp only;omega,h6⟩
theorem UY{l:gv}{n:Int}{t:Prop}(hl:l.length<=1000):jZ t (rL l n) fun r=>r.length<=l.length+1:=by
 unfold rL;refine jZ.loop (fun q:Int=>0<=q/\q<=l.length) (fun q:Int=>l.length-q.toNat) ⟨gY,gY⟩ ?_;rintro k ⟨h0,h1⟩;have put:jZ t (if 0<=k/\k<=(l.length:Int)then(jo (l.take k.toNat)).bind fun r=>if(r.length+1)*8<=140737488355328 then if 0<=k/\k<=(l.length:Int)then if((r++[n]).length+(l.drop k.toNat).length)*8<=140737488355328 then some ((r++[n])++(l.drop k.toNat))else none else none else none else none) fun r=>r.length<=l.length+1:=by
  have hlt:(l.take k.toNat).length<=l.length:=by rw[cg];omega
  have hld:(l.drop k.toNat).length<=l.length:=by rw[cG];omega
  rw[ah ⟨h0,h1⟩,kK (by show List.length _<_;omega),aa,ah gY,ah ⟨h0,h1⟩,ah (by simp only[ai,aL];omega)];refine .some ?_;simp only[ai,aL,cg,cG];omega
 have fin:jZ t (if(decide (k<(l.length:Int)))=true then if 0<=k/\k<(l.length:Int)then if((l.getD k.toNat default)==n)=true then some l else if 0<=k/\k<=(l.length:Int)then(jo (l.take k.toNat)).bind fun r=>if(r.length+1)*8<=140737488355328 then if 0<=k/\k<=(l.length:Int)then if((r++[n]).length+(l.drop k.toNat).length)*8<=140737488355328 then some ((r++[n])++(l.drop k.toNat))else none else none else none else none else none else if 0<=k/\k<=(l.length:Int)then(jo (l.take k.toNat)).bind fun r=>if(r.length+1)*8<=140737488355328 then if 0<=k/\k<=(l.length:Int)then if((r++[n]).length+(l.drop k.toNat).length)*8<=140737488355328 then some ((r++[n])++(l.drop k.toNat))else none else none else none else none) fun r=>r.length<=l.length+1:=by
  by_cases c:k<l.length
  ·rw[ah (by simpa using c),ah ⟨h0,c⟩];refine jZ.ite (fun _=>.some gY) fun _=>put
  ·rw[ak (by simpa using c)];exact put
 unfold tV;by_cases c:k<l.length
 ·rw[ah (by simpa using c),ah ⟨h0,c⟩];refine jZ.ite (fun _=>?_) fun _=>fin.inr
  rw[lg gY gY];exact .some ⟨⟨gY,gY⟩,by dsimp only;omega⟩
 ·rw[ak (by simpa using c)];exact fin.inr
theorem PA{a t:gv}{T:Prop}(hl:t.length<=60):jZ T (pX a t) fun r=>r.length<=60:=by
 unfold pX;rw[oS,aa];refine jZ.ite (fun _=>?_) fun _=>.some (by simp)
 refine jZ.bind (P:=fun r=>r.length<=60) ?_ fun r hr=>.some hr
 unfold uh;refine jZ.loop (fun q:gv×Int=>0<=q.2/\q.2<=t.length/\q.1.length<=q.2.toNat) (fun q:gv×Int=>t.length-q.2.toNat) ⟨by simp,by simp,by simp⟩ ?_;rintro⟨o,i⟩ ⟨h0,h1,h2⟩;simp only at h0 h1 h2;unfold tW;dsimp only;by_cases c:i<t.length
 ·rw[ah (by simpa using c)];have hc:0<=i/\i<(t.length:Int):=⟨h0,c⟩;simp only[ah hc,lg (n:=i+1) gY gY];refine jZ.ite (fun _=>?_) fun _=>?_
  ·refine jZ.bind (UY gY) fun r hr=>?_
   exact .some ⟨⟨by simp only;omega,by simp only;omega,by simp only;omega⟩,by simp only;omega⟩
  ·exact .some ⟨⟨by simp only;omega,by simp only;omega,by simp only;omega⟩,by simp only;omega⟩
 ·rw[ak (by simpa using c),aK];exact .some (by show o.length<=60;omega)
theorem Sd{d0:gv}(hb:MZ d0)(hl:d0.length<=4096){T:Prop}{r2 r3 r6:gv×Int×Int}{r5:gv}(h6:r6.1.length<=60)(hd:0<=r6.2.1):jZ T (iw (qN d0 r2 r3 r5) (0,r6.2.1,r6.2.2,r6.1)) fun q=>0<=q.2.1:=by
 refine jZ.loop (fun q:Int×Int×Int×gv=>0<=q.1/\q.1<=q.2.2.2.length/\q.2.2.2.length<=60/\0<=q.2.1) (fun q:Int×Int×Int×gv=>q.2.2.2.length-q.1.toNat) ⟨by simp,by simp,h6,hd⟩ ?_;rintro⟨i,d,d1,g⟩ ⟨h0,h1,h2,h3⟩;simp only at h0 h1 h2 h3;unfold qN;dsimp only;by_cases c:i<g.length
 ·rw[ah (by simpa using c)];have hc:0<=i/\i<(g.length:Int):=⟨h0,c⟩;simp only[ah hc,lg (n:=i+1) gY gY];have nx:∀{d d1:Int}{g':gv},g'.length=g.length->0<=d->jZ T (some (.inl (i+1,d,d1,g')):Option (gI⊕(gz×Int×Int))) (zL (fun q:Int×Int×Int×gv=>0<=q.1/\q.1<=q.2.2.2.length/\q.2.2.2.length<=60/\0<=q.2.1) (fun q:Int×Int×Int×gv=>q.2.2.2.length-q.1.toNat) (fun q:gz×Int×Int=>0<=q.2.1) (g.length-i.toNat)):=fun{d d1 g'} hg hd=>.some ⟨⟨by simp only;omega,by simp only;omega,by simp only;omega,hd⟩,by simp only;omega⟩
  by_cases c1:g.getD i.toNat default<0
  ·simp only[c1,aT,aC];by_cases c2:r5.length=0
   ·rw[ah (by simp[c2])];exact nx (by simp) h3
   ·rw[ak (by simpa using c2)];refine jZ.bind (rX hb hl gY h3) fun u ⟨u1,u2,u3⟩=>?_
    rw[ah ⟨u1,u2⟩];exact nx (by simp) u3
  ·simp only[c1,aU,aj,aE];exact nx rfl h3
 ·rw[ak (by simpa using c),aK];exact .some h3
theorem Se{d0:gv}(hb:MZ d0)(hl:d0.length<=4096){T:Prop}{r r6:gv×Int×Int}{r5:gv}(h6:r6.1.length<=60)(hd:0<=r6.2.1):jZ T (iw (qO d0 r r5) (0,r6.2.1,r6.2.2,r6.1)) fun q=>0<=q.2.1:=by
 refine jZ.loop (fun q:Int×Int×Int×gv=>0<=q.1/\q.1<=q.2.2.2.length/\q.2.2.2.length<=60/\0<=q.2.1) (fun q:Int×Int×Int×gv=>q.2.2.2.length-q.1.toNat) ⟨by simp,by simp,h6,hd⟩ ?_;rintro⟨i,d,d1,g⟩ ⟨h0,h1,h2,h3⟩;simp only at h0 h1 h2 h3;unfold qO;dsimp only;by_cases c:i<g.length
 ·rw[ah (by simpa using c)];have hc:0<=i/\i<(g.length:Int):=⟨h0,c⟩;simp only[ah hc,lg (n:=i+1) gY gY];have nx:∀{d d1:Int}{g':gv},g'.length=g.length->0<=d->jZ T (some (.inl (i+1,d,d1,g')):Option (gI⊕(gz×Int×Int))) (zL (fun q:Int×Int×Int×gv=>0<=q.1/\q.1<=q.2.2.2.length/\q.2.2.2.length<=60/\0<=q.2.1) (fun q:Int×Int×Int×gv=>q.2.2.2.length-q.1.toNat) (fun q:gz×Int×Int=>0<=q.2.1) (g.length-i.toNat)):=fun{d d1 g'} hg hd=>.some ⟨⟨by simp only;omega,by simp only;omega,by simp only;omega,hd⟩,by simp only;omega⟩
  by_cases c1:g.getD i.toNat default<0
  ·simp only[c1,aT,aC];by_cases c2:r5.length=0
   ·rw[ah (by simp[c2])];exact nx (by simp) h3
   ·rw[ak (by simpa using c2)];refine jZ.bind (rX hb hl gY h3) fun u ⟨u1,u2,u3⟩=>?_
    rw[ah ⟨u1,u2⟩];exact nx (by simp) u3
  ·simp only[c1,aU,aj,aE];exact nx rfl h3
 ·rw[ak (by simpa using c),aK];exact .some h3
theorem PK{d0:gv}(hb:MZ d0)(hl:d0.length<=4096){d1 d2:Int}{t:Prop}(h1:0<=d1):jZ t (rI d0 d1 d2) fun q=>0<=q.2.1:=by
 unfold rI;refine jZ.bind (Bh (m:=2) hb hl (by decide) (by decide) h1) fun r ⟨r1,r2,r3⟩=>?_
 rw[ah gY];refine jZ.bind (rX hb hl (by decide) r3) fun u ⟨u1,u2,u3⟩=>?_
 refine jZ.ite (fun _=>?_) fun _=>?_
 ·refine jZ.bind (Bh (m:=2) hb hl (by decide) (by decide) u3) fun v ⟨v1,v2,v3⟩=>?_
  rw[ah gY];refine jZ.bind (Bh (m:=1) hb hl (by decide) (by decide) v3) fun w ⟨w1,w2,w3⟩=>?_
  rw[ah (by simp only[ai,aL];omega),show oq=some [2,1,0]from rfl,aa];refine jZ.bind (PA (by simp only[ai,aL];omega)) fun x hx=>?_
  refine jZ.bind (Cj hb hl w3) fun y ⟨y1,y2,y3⟩=>?_
  exact Sd hb hl gY y3
 ·rw[show oq=some [2,1,0]from rfl,aa];refine jZ.bind (PA (by simp only[ai,aL];omega)) fun x hx=>?_
  refine jZ.bind (Cj hb hl u3) fun y ⟨y1,y2,y3⟩=>?_
  exact Se hb hl gY y3
theorem JI{d0:gv}(hb:MZ d0)(hl:d0.length<=4096){d1 d2:Int}{t:Prop}(h1:0<=d1):jZ t (pS d0 d1 d2) fun q=>0<=q.2.1:=by
 unfold pS;rw[show oq=some [2,1,0]from rfl,aa];refine jZ.bind (rX hb hl (by decide) h1) fun u ⟨u1,u2,u3⟩=>?_
 refine jZ.ite (fun _=>?_) fun _=>?_
 ·refine jZ.bind (rX hb hl (by decide) u3) fun v ⟨v1,v2,v3⟩=>?_
  refine jZ.bind (P:=fun _=>True) ?_ fun w _=>.some v3
  unfold sQ;exact jZ.ite (fun _=>.some trivial) fun _=>jZ.ite (fun _=>.some trivial) fun _=>jZ.ite (fun _=>.some trivial) fun _=>jZ.ite (fun _=>.some trivial) fun _=>jZ.ite (fun _=>.some trivial) fun _=>.some trivial
 ·refine jZ.bind (rX hb hl (by decide) u3) fun v ⟨v1,v2,v3⟩=>?_
  refine jZ.loop (fun q:Int×Int×Int×List gz=>0<=q.1/\q.1<=3/\q.2.2.2.length+q.1.toNat<=3/\0<=q.2.1) (fun q:Int×Int×Int×List gz=>q.1.toNat) ⟨by simp only;rw[lg gY gY];omega,by simp only;rw[lg gY gY];omega,by simp only[bN];rw[lg gY gY];omega,v3⟩ ?_;rintro⟨k,d,d1,s⟩ ⟨h0,h1,h2,h3⟩;simp only at h0 h1 h2 h3;unfold r_;dsimp only;by_cases c:0<k
  ·rw[ah (by simpa using c)];refine jZ.bind (PK hb hl h3) fun r hr=>?_
   rw[ah gY,lg gY gY];exact .some ⟨⟨by simp only;omega,by simp only;omega,by simp only[ai,aL];omega,hr⟩,by simp only;omega⟩
  ·rw[ak (by simpa using c),aK];exact .some h3
theorem ID{α:Type}[Inhabited α](p:α->Bool){L:List α}{i:Nat}(hi:i<L.length)(hp:p (L.getD i default)=true):((L.take i).filter p).length<(L.filter p).length/\(L.filter p).getD ((L.take i).filter p).length default=L.getD i default:=by
 have e:L=L.take i++L[i]::L.drop (i+1):=by rw[<-aA hi,cx]
 rw[iG hi]at hp⊢;have e2:L.filter p=(L.take i).filter p++L[i]::(L.drop (i+1)).filter p:=by
  conv=>lhs;rw[e]
  rw[eW,List.filter_cons_of_pos hp]
 constructor
 ·rw[e2];simp
 ·rw[e2];simp
theorem Ji{sys:Sys}{steps a1 a2 b2 b3:Int}{x:Int}(hx:IntKind.i64.wrap (1+x)=steps)(hs:jN sys=true)(hd:NY steps=true)(h2:(ry sys).2=true):
 iw (ju (sys,a1,a2) (x,b2,b3) (ry sys) (F1 sys steps)) (0,0)=some true:=by
 have hl:=FO sys;have hul:(F1 sys steps).length<=64:=cw (fq _ _) hl;refine qn (n:=(ry sys).1.length) (fun i=>((((((ry sys).1.take i).filter fun y=>!Bp sys steps y).length:Nat):Int),(i:Int))) (fun i hi=>?_) ?_
 ·have hy:(ry sys).1.getD i default∈(ry sys).1:=jM hi;obtain⟨w,e1,_,e2,e3⟩:=EP hs hd hy;obtain⟨k1,k2⟩:=DR hs hy;have k0:=(T9 hs hy).2;have k1':=Kv k1;have k2':=Kv k2;have hfl:(((ry sys).1.take i).filter fun y=>!Bp sys steps y).length<=i:=cw (fq _ _) (by rw[cg];omega);have hi1:decide ((i:Int)<((ry sys).1.length:Int))=true:=eU gY;have hi2:0<=(i:Int)/\(i:Int)<((ry sys).1.length:Int):=by omega
  have hnx:=EH (p:=fun y=>!Bp sys steps y) hi;rw[<-iG hi]at hnx;have hsp:=ID (fun y=>!Bp sys steps y) hi;show ju (sys,a1,a2) (x,b2,b3) (ry sys) (F1 sys steps) ((((((ry sys).1.take i).filter fun y=>!Bp sys steps y).length:Nat):Int),(i:Int))=some (.inl ((((((ry sys).1.take (i+1)).filter fun y=>!Bp sys steps y).length:Nat):Int),((i+1:Nat):Int)));rw[hnx];generalize(((ry sys).1.take i).filter fun y=>!Bp sys steps y)=Z at hfl hsp⊢;change _->Z.length<(F1 sys steps).length/\(F1 sys steps).getD Z.length default=_ at hsp;have e1':mJ sys (((ry sys).1.getD i default).1,((ry sys).1.getD i default).2.1,((ry sys).1.getD i default).2.2.1,((ry sys).1.getD i default).2.2.2.1,((ry sys).1.getD i default).2.2.2.2.1,((ry sys).1.getD i default).2.2.2.2.2) (IntKind.i64.wrap (1+x))=some w:=by rw[hx];exact e1
  rw[ju];simp only[hi1,h2,aC,ah hi2,aq,e1',aa,lg (n:=(i:Int)+1) gY gY];generalize(ry sys).1.getD i default=y at *;cases hw:w.2.2 with
  |true=>
   obtain⟨q1,q2,q3,q4⟩:=e3 hw;have hj:Bp sys steps y=true:=by rw[<-e2,hw]
   have l1:(zV (Q0 w.2.1)).length<=60:=V3.end' (HP q2).ch;simp only[aC,wV,q1,q2,aa,vU q1,vU q2,q3,uu l1,q4,uu k1',hj];simp
  |false=>
   have hj:Bp sys steps y=false:=by rw[<-e2,hw]
   obtain⟨p1,p2⟩:=hsp (by rw[hj];rfl);have c1:¬decide (((F1 sys steps).length:Int)<=(Z.length:Int))=true:=by simp only[av];omega
   have c2:0<=(Z.length:Int)/\(Z.length:Int)<((F1 sys steps).length:Int):=by omega
   have hsame:nZ (y.1,y.2.1,y.2.2.1,y.2.2.2.1,y.2.2.2.2.1,y.2.2.2.2.2) (y.1,y.2.1,y.2.2.1,y.2.2.2.1,y.2.2.2.2.1,y.2.2.2.2.2)=some true:=yz k0 k1' k2';simp only[aj,aE,ak c1,ah c2,aq,p2,hsame,aa,aC,hj,lg (n:=(Z.length:Int)+1) gY gY,Bool.not_false,ai,aL];simp
 ·have hi1:¬decide (((ry sys).1.length:Int)<((ry sys).1.length:Int))=true:=by simp
  rw[cA];show ju (sys,a1,a2) (x,b2,b3) (ry sys) (F1 sys steps) (((F1 sys steps).length:Int),((ry sys).1.length:Int))=_;rw[ju];simp only[ak hi1,cj,aC,vp,aa,hx,h2,aK];congr 2;unfold V7;rw[hs,hd,h2];simp only[cn];cases ha:(ry sys).1.all (Bp sys steps)with
  |true=>
   have:F1 sys steps=[]:=List.filter_eq_nil_iff.2 fun z hz=>by rw[cy.1 ha z hz];simp
   rw[this];rfl
  |false=>
   obtain⟨z,hz,hzf⟩:=List.all_eq_false.1 ha;have hm:z∈F1 sys steps:=ej.2 ⟨hz,by simpa using hzf⟩;have:=eB hm;rw[show(((F1 sys steps).length:Int)==0)=false from bW.2 gY];rfl
theorem LV{code:gv}(hb:MZ code):oo code=some true:=by
 unfold oo xE;rw[aa];by_cases hbig:4096<code.length
 ·rw[ah (by simpa using(by omega:(4096:Int)<code.length))]
 rw[ak (by simpa using(by omega:(code.length:Int)<=4096))];have hl:code.length<=4096:=by omega
 obtain⟨h0,e0⟩:=Sa hl 954;rw[e0,aa];obtain⟨⟨sys,i,h⟩,e1,hi⟩:=(JI (d2:=h0) (t:=True) hb hl (ek 0)).get;simp only;rw[e1,aa];obtain⟨x,j,g,e2,x0,x4,hj⟩:=Gp (n:=4) (d2:=h) hb hl (by decide) hi;simp only;rw[e2,aa];have hw:IntKind.i64.wrap (1+x)=1+x:=lg gY gY;have hd:NY (1+x)=true:=Fk.2 ⟨gY,gY⟩;simp only;rw[hw,Aw,aa,yu sys hd,aa];have bad:∀{R:List Pk×Bool},R.1=[]->R.2=false->V7 sys (1+x)=false->iw (ju (sys,i,h) (x,j,g) R []) (0,0)=some true:=fun{R} r1 r2 r3=>by
  refine iz ?_;rw[ju];simp only[r1,r2,bN,Int.ofNat_zero,Int.lt_irrefl,aU,aj,aE,cj,aC,vp,hw,aa,r3,aK]
 cases hs:jN sys with
 |false=>
  simp only[aj,aE];exact bad rfl rfl (by unfold V7;rw[hs];rfl)
 |true=>
  simp only[aC];cases h2:(ry sys).2 with
  |false=>
   have hn:=R4 h2;have hu:F1 sys (1+x)=[]:=by unfold F1;rw[hn];rfl
   rw[hu];exact bad hn h2 (by unfold V7;rw[h2];simp)
  |true=>exact Ji hw hs hd h2
end Go.Proofs.YtjgbnaihpicpgaaGreatDoor
namespace Go.Proofs.YtjgbnaihpicpgaaGreatDoor
open Go mm Go.ChangeShapes Go.WideShapes Go.ChangeAt Go.RowKit
abbrev M4:mm.Own:=fun _ _=>False
theorem Hq{P:Program}{f:Nat}{ds:List D}{r:D}(h:jU P f ds r){W:World}(hgw:GW M4 W){vs:Array Value}(h1:∀v∈vs.toList,True)(hd:AV.iK (fun _=>.no) M4 W (ds.map .d) vs.toList):
 Calls P f vs W fun e W'=>(∃u,e=.returned u/\D.ok M4 W' r u)/\Below W.heap.size W W':=by
 have no:∀(b o:Nat),¬({O:=fun _ _=>False,β:=fun _=>.no,s:=[],w:=W,k:=0}:Ctx).ir (fun _=>.no) [] b o:=fun b o h=>by
  rcases h with h|⟨i,h⟩
  ·exact h
  ·exact h
 have hI:Inv {O:=fun _ _=>False,β:=fun _=>.no,s:=[],w:=W,k:=0} (fun _=>.no) [] W:=
  ⟨aF _,rfl,⟨hgw.1,fun h=>no _ _ h⟩,fun _ _ _ h _=>h,fun _ _ _=>rfl,fun _ _ h=>.inl h,fun id b h=>.inl ⟨id,h⟩,fun _ h=>absurd h (gj _),fun _ _ h=>h.elim,fun _=>rfl,fun _ _ _ h=>h.elim⟩
 have ha:AV.iK (fun _=>.no) (({O:=fun _ _=>False,β:=fun _=>.no,s:=[],w:=W,k:=0}:Ctx).ir (fun _=>.no) []) W (ds.map .d) vs.toList:=by
  have e:(({O:=fun _ _=>False,β:=fun _=>.no,s:=[],w:=W,k:=0}:Ctx).ir (fun _=>.no) [])=M4:=by
   funext b o;exact propext ⟨fun h=>no b o h,fun h=>h.elim⟩
  rw[e];exact hd
 refine(h {O:=fun _ _=>False,β:=fun _=>.no,s:=[],w:=W,k:=0} vs rfl rfl hI ha).mono fun e W' hq=>?_
 obtain⟨u,x,β',s',rfl,hi,hx,rfl⟩:=hq;simp only[AV.ok]at hx;refine⟨⟨u,rfl,D.iY (fun b o v hc _=>⟨hc,fun h=>h⟩) _ _ hx⟩,?_⟩;have hio:=hi.io;simp only[yo,dS]at hio;exact⟨hio.1,hio.2.2,hio.2.1,hi.size,fun k hk=>hi.qq k hk fun id h=>h⟩
theorem Gf{b o i:Nat}:Addr.add ⟨b,o,none⟩ i=⟨b,o+i,none⟩:=by
 by_cases h:i=0
 ·simp[Addr.add,h]
 ·simp[Addr.add,h]
def Rd(P:Program)(t:TypeId)(e:Nat){α:Type}(f:α->D)(G:α->Prop):Prop:=
 P.cellsOf t=e/\∀{H:Type}{enc:TypeId×Value->H}{w:World}{spare:Nat->Bool}{held:Bool}{n:Nat}{cs:List Value}{x:DataW H×List MemPlace},
  DataW.trod enc P w 0 spare held n t cs=some x->∃y,G y/\cs.length=e/\(∀v∈cs,mm.one v=true)/\D.iK M4 w (iq (f y)) cs
theorem oE{O:mm.Own}{w:World}:∀{xs ys:List D}{us vs:List Value},D.iK O w xs us->D.iK O w ys vs->D.iK O w (xs++ys) (us++vs)
 |[],_,us,_,h,h2=>by simp only[D.iK]at h;subst h;exact h2
 |x::xs,_,us,_,h,h2=>by
  simp only[D.iK]at h;obtain⟨v,r,rfl,h1,h3,h4⟩:=h;simp only[bP,D.iK];exact⟨v,_,rfl,h1,h3,oE h4 h2⟩
theorem Rd.aaD{P:Program}{t:TypeId}{k:IntKind}(ht:P.underlying t=some (.int k))(hm:P.cellsOf t=1):Rd P t 1 (kD k) (fun x=>(Lit.int k x).wf=true):=⟨hm,fun{H enc w spare held n cs x} hx=>by
 obtain⟨m,hm⟩:=DataW.trod_int ht hx;obtain⟨rfl,_,hw⟩:=hm;exact⟨m,hw,rfl,by simp[mm.one],⟨_,_,rfl,rfl,⟨rfl,rfl⟩,rfl⟩⟩⟩
abbrev Uk{α:Type}(xs:List α):Prop:=xs.length<9223372036854775808
theorem Rd.slice{P:Program}{t e:TypeId}{k:Nat}{α:Type}{f:α->D}{G:α->Prop}[wC f k](ht:P.underlying t=some (.slice e))(hm:P.cellsOf t=1)(hk:0<k)(h:Rd P e k f G)(hcel:∀y O w vs,D.iK O w (iq (f y)) vs->D.HT O w (f y) vs):
 Rd P t 1 (ia k f) (fun xs=>Uk xs/\∀x∈xs,G x):=⟨hm,fun{H enc w spare held n cs x} hx=>by
 rcases DataW.trod_slice ht hx with⟨rfl,_⟩|⟨a,len,cap,elems,rest,n',rfl,rfl,_,_,hl,hmx,hlen,hel,_,_⟩
 ·refine⟨[],⟨by show(0:Nat)<9223372036854775808;decide,fun x hx=>(fh hx).elim⟩,rfl,by simp[mm.one],⟨_,_,rfl,rfl,?_,rfl⟩⟩;simp only[ia,D.ok];exact⟨none,0,rfl,⟨aF _,by decide⟩,trivial,.inl rfl⟩
 ·have hmx':cap<9223372036854775808:=by have:maxLen=2^63-1:=rfl;omega
  have each:∀i,i<len->∃y vs,G y/\vs.length=k/\(∀v∈vs,mm.one v=true)/\D.iK M4 w (iq (f y)) vs/\∀j,j<k->w.cell? ((a.add (i*k)).add j)=vs[j]?:=by
   intro i hi;have h1:=hel i hi;rw[h.1,aB (show i<elems.length by omega),au]at h1;obtain⟨vs,h2,h3⟩:=h1;obtain⟨y,g1,g2,g3,g4⟩:=h.2 h3;obtain⟨_,_,h5⟩:=World.cells?_some h2;exact⟨y,vs,g1,g2,g3,g4,h5⟩
  rcases fI len with h0|hpos
  ·subst h0;refine⟨[],⟨by show(0:Nat)<9223372036854775808;decide,fun x hx=>(fh hx).elim⟩,rfl,by simp[mm.one],⟨_,_,rfl,rfl,?_,rfl⟩⟩;simp only[ia,D.ok];exact⟨some a,cap,rfl,⟨hl,hmx'⟩,trivial,.inl rfl⟩
  have hs:a.spot=none:=by
   obtain⟨y,vs,_,g2,_,_,g5⟩:=each 0 hpos;have h0:=g5 0 hk;rw[aB (show 0<vs.length by omega)]at h0;have:=World.cell?_spot h0;simpa[Addr.add]using this
  obtain⟨b,o,sp⟩:=a;simp only at hs;subst hs;have key:∀(m i:Nat),i+m=len->∃ys:List α,ys.length=m/\(∀y∈ys,G y)/\D.row M4 w b (o+i*k) k (ys.map f):=by
   intro m;induction m with
   |zero=>intro i _;exact⟨[],rfl,fun y hy=>(fh hy).elim,by simp[D.row]⟩
   |succ m ih=>
    intro i hi;obtain⟨ys,y1,y2,y4⟩:=ih (i+1) gY;obtain⟨y,vs,g1,g2,g3,g4,g5⟩:=each i gY;refine⟨y::ys,by simp[y1],fun z hz=>?_,?_⟩
    ·rcases bI.1 hz with rfl|hz
     ·exact g1
     ·exact y2 z hz
    ·rw[aP];refine D.mQ.2 ⟨⟨vs,g2,fun j v hj=>?_,hcel _ _ _ _ g4⟩,?_⟩
     ·have hjk:j<k:=by rw[<-g2];exact(aO.1 hj).1
      have:=g5 j hjk;rw[hj]at this;refine⟨?_,fun h=>h,g3 v (bO hj)⟩;rw[<-this,Gf,Gf]
     ·have:=y4;rwa [bY,Nat.one_mul,<-dg]at this
  obtain⟨ys,y1,y2,y4⟩:=key len 0 gY;refine⟨ys,⟨by show ys.length<9223372036854775808;omega,y2⟩,rfl,by simp[mm.one],⟨_,_,rfl,rfl,?_,rfl⟩⟩;simp only[ia,D.ok];refine⟨some ⟨b,o,none⟩,cap,by rw[aM,y1],⟨by rw[aM];omega,gY⟩,trivial,?_⟩;exact .inr ⟨b,o,rfl,by simpa using y4⟩⟩
theorem Rd.cell{P:Program}{t:TypeId}{α:Type}{f:α->D}{G:α->Prop}(hr:Rd P t 1 f G)(hf:∀y,iq (f y)=[f y]){W:World}{v:Value}(hv:v.cells=#[v])
 {H:Type} {enc:TypeId×Value->H} {spare:Nat->Bool} {held:Bool} {d:DataW H} {p:List MemPlace} (h:DataW.Trod enc P W 0 spare held t v d p):∃y,G y/\D.ok M4 W (f y) v:=by
 obtain⟨fuel,hf'⟩:=h;obtain⟨y,g1,g2,g3,g4⟩:=hr.2 hf';refine⟨y,g1,?_⟩;rw[hf,hv]at g4;simp only[D.iK]at g4;obtain⟨u,r,e,_,g5,_⟩:=g4;simp at e;rw[e.1];exact g5
theorem aaP:ownKnob Tryz.prog.godebug=none:=by kernel_rfl
theorem XL:laidOutB Tryz.prog=true:=by kernel_rfl
theorem QZ{α:Type}{f:α->D}(hf:∀y,iq (f y)=[f y])(ha:∀y cs,f y≠ .agg cs):∀y O w vs,D.iK O w (iq (f y)) vs->D.HT O w (f y) vs:=fun y O w vs h=>by
 rw[hf]at h;obtain⟨v,r,e,_,h2,h3⟩:=h;have h3':r=[]:=h3;subst h3';have:=ha y;cases hy:f y with
 |agg cs=>exact absurd hy (this cs)
 |_=>rw[hy]at h2;exact⟨v,e,h2⟩
theorem rd5:Rd Tryz.prog 5 1 (kD .u8) (fun x:Int=>(Lit.int .u8 x).wf=true):=Rd.aaD Tryz.underlying5 (by kernel_rfl)
theorem aaS:Rd Tryz.prog 37 1 (ia 1 (kD .u8)) (fun x:gv=>(Uk x/\∀y0:Int,y0∈x->((Lit.int .u8 y0).wf=true))):=Rd.slice Tryz.underlying37 (by kernel_rfl) (by decide) rd5 (QZ (fun _=>rfl) (fun _ _ h=>nomatch h))
end Go.Proofs.YtjgbnaihpicpgaaGreatDoor
