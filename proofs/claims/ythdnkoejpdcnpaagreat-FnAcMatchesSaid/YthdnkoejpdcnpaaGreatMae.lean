/- A part of the proof about FnAcMatches (S1, S2, S3, S4, S5, S6, S7, S8). -/
import Derived.Test.YthdnkoejpdcnpaaGreatMac
import Derived.Test.YthdnkoejpdcnpaaGreatMad
import Derived.WalkKit
import Derived.KernelRfl
import Derived.Shelf.SlSortCmp.NoneTotal
set_option linter.all false
namespace Go.Proofs.YthdnkoejpdcnpaaGreat
open Go Go.RowKit Go.Proofs
def SL(w:World)(A:Option Addr)(xs:fN):Prop:=∀j x,xs[j]?=some x->∃ad,A=some ad/\w.cell? (ad.add j)=some (.int .i64 x)
def oS:fN->fN->Int
 |[],[]=>0
 |[],_::_=> -1
 |_::_,[]=>1
 |x::xs,y::ys=>if x<y then -1 else if y<x then 1 else oS xs ys
def kX(a b:fN):Int:=if a.length=b.length then oS a b else(a.length:Int)-b.length
set_option maxHeartbeats 1000000 in
theorem Bq(x y:Int)(w:World):Calls Tryz.prog 193 #[.int .i64 x,.int .i64 y] w fun e w'=>e=.returned (.int .i64 (if x<y then -1 else if y<x then 1 else 0))/\w'=w:=by
 have N:∀(z:Int)(w:World),Calls Tryz.prog 215 #[.int .i64 z] w fun e w'=>e=.returned (.bool false)/\w'=w:=fun z w=>by
  go_enter Tryz.func215,Tryz.ntmps215
  go_wp2
  go_ret
  exact⟨by simp,rfl⟩
 go_enter Tryz.func193,Tryz.ntmps193
 go_wp2_with (go_at_call 215;refine(N _ _).mono ?_;rintro e w' ⟨rfl,rfl⟩)
 all_goals(go_ret;refine⟨?_,rfl⟩)
 ·simp[*]
 ·have:¬x<y:=by omega
  simp[*]
 ·have h1:¬x<y:=by omega
  have h2:¬y<x:=by omega
  simp[*]
set_option maxHeartbeats 4000000 in
theorem LH(xs ys:fN)(A B:Option Addr)(ca cb:Nat)(w:World)(hx:SL w A xs)(hy:SL w B ys)(h1:xs.length<2^62)(h2:ys.length<2^62):
 Calls Tryz.prog 154 #[.slice A xs.length ca,.slice B ys.length cb] w fun e w'=>e=.returned (.int .i64 (oS xs ys))/\w'=w:=by
 go_enter Tryz.func154,Tryz.ntmps154
 go_wp2
 go_loopw [11] (fun i wr=>∃q:Nat,i=.int .i64 q/\q<=xs.length/\q<=ys.length/\wr=w/\oS xs ys=oS (xs.drop q) (ys.drop q)) (fun i _=>(xs.length-intOf i).toNat)
 case atStart=>exact⟨0,rfl,gq,gq,rfl,by simp⟩
 case round=>
  obtain⟨q,rfl,hq,hq2,rfl,hl⟩:=hrel;by_cases ha:q<xs.length
  ·obtain⟨ad,rfl,cx⟩:=hx q _ (aA ha);by_cases hb:q<ys.length
   ·obtain⟨bd,rfl,cy⟩:=hy q _ (aA hb);have hl':oS xs ys=if xs[q]<ys[q]then -1 else if ys[q]<xs[q]then 1 else oS (xs.drop (q+1)) (ys.drop (q+1)):=by rw[hl,aH ha,aH hb];rfl
    clear hl hx hy;generalize xs[q]=x at *;generalize ys[q]=y at *;rcases Int.lt_trichotomy x y with h|h|h
    ·have C:=fun w=>Bq x y w
     simp only[ah h]at C hl'
     go_wp2_with (go_at_call 193;refine(C _).mono ?_;rintro e w' ⟨rfl,rfl⟩)
     go_ret
     exact⟨by rw[hl'];rfl,rfl⟩
    ·subst h;have C:=fun w=>Bq x x w
     simp only[Int.lt_irrefl,aI]at C hl'
     go_wp2_with (go_at_call 193;refine(C _).mono ?_;rintro e w' ⟨rfl,rfl⟩)
     go_roundw
     case rel=>exact⟨q+1,by go_num,gq,gq,by trivial,hl'⟩
     case measure=>simp[intOf];omega
    ·have C:=fun w=>Bq x y w
     simp only[ay (show ¬x<y by omega),ah h]at C hl'
     go_wp2_with (go_at_call 193;refine(C _).mono ?_;rintro e w' ⟨rfl,rfl⟩)
     go_ret
     exact⟨by rw[hl'];rfl,rfl⟩
   ·have e:oS xs ys=1:=by rw[hl,aH ha,bp (show ys.length<=q by omega)];rfl
    have:q=ys.length:=by omega
    subst this
    go_wp2
    go_ret
    exact⟨by rw[e];rfl,rfl⟩
  ·have:q=xs.length:=by omega
   subst this;rw[eL]at hl;by_cases hb:xs.length<ys.length
   ·have e:oS xs ys= -1:=by rw[hl,aH hb];rfl
    go_wp2
    go_ret
    exact⟨by rw[e];rfl,rfl⟩
   ·have e:oS xs ys=0:=by rw[hl,bp gq];rfl
    go_wp2
    go_ret
    exact⟨by rw[e];rfl,rfl⟩
set_option maxHeartbeats 2000000 in
set_option maxRecDepth 100000 in
theorem CN(xs ys:fN)(A B:Option Addr)(ca cb:Nat)(w:World)(hx:SL w A xs)(hy:SL w B ys)(h1:xs.length<2^62)(h2:ys.length<2^62):
 Calls Tryz.prog 98 #[.slice A xs.length ca,.slice B ys.length cb] w fun e w'=>e=.returned (.int .i64 (kX xs ys))/\w'=w:=by
 have L:=LH xs ys A B ca cb w hx hy h1 h2;clear hx hy;have C:kX xs ys=if xs.length=ys.length then oS xs ys else(xs.length:Int)-ys.length:=rfl
 generalize kX xs ys=c at C⊢;generalize oS xs ys=l at C L;generalize xs.length=n at *;generalize ys.length=m at *;clear xs ys;by_cases h:n=m
 ·subst h;rw[ah rfl]at C;subst C
  go_enter Tryz.func98,Tryz.ntmps98
  go_wp2_with (go_at_call 154;refine L.mono ?_;rintro e w' ⟨rfl,rfl⟩)
  go_ret
  exact⟨rfl,rfl⟩
 ·rw[ay h]at C;subst C;clear L
  go_enter Tryz.func98,Tryz.ntmps98
  go_wp2
  go_ret
  exact⟨rfl,rfl⟩
theorem CZ:∀a:fN,oS a a=0
 |[]=>rfl
 |x::xs=>by simp[oS,CZ xs]
theorem E9:∀a b:fN,oS b a= - oS a b
 |[],[]=>rfl
 |[],_::_=>rfl
 |_::_,[]=>rfl
 |x::xs,y::ys=>by
  simp only[oS];have:=E9 xs ys
  repeat' split
  all_goals first|rfl|omega
theorem C1:∀{a b:fN},oS a b=0->a=b
 |[],[],_=>rfl
 |[],_::_,h=>by simp[oS]at h
 |_::_,[],h=>by simp[oS]at h
 |x::xs,y::ys,h=>by
  simp only[oS]at h;split at h
  ·omega
  ·split at h
   ·omega
   ·rw[C1 h,show x=y by omega]
theorem BQ:∀{a b c:fN},oS a b<=0->oS b c<=0->oS a c<=0/\(oS a b<0\/oS b c<0->oS a c<0)
 |[],[],c,h1,h2=>⟨h2,fun h=>h.elim (fun h=>by simp[oS]at h) id⟩
 |[],_::_,[],h1,h2=>by simp[oS]at h2
 |[],_::_,_::_,h1,h2=>by simp[oS]
 |_::_,[],_,h1,h2=>by simp[oS]at h1
 |_::_,_::_,[],h1,h2=>by simp[oS]at h2
 |x::xs,y::ys,z::zs,h1,h2=>by
  have ih:=fun h1 h2=>BQ (a:=xs) (b:=ys) (c:=zs) h1 h2
  simp only[oS]at h1 h2⊢;by_cases h3:x<y
  ·by_cases h4:y<z
   ·rw[ah (show x<z by omega)];omega
   ·rw[ay h4]at h2;by_cases h5:z<y
    ·rw[ah h5]at h2;omega
    ·rw[ah (show x<z by omega)];omega
  ·rw[ay h3]at h1⊢;by_cases h5:y<x
   ·rw[ah h5]at h1;omega
   ·rw[ay h5]at h1⊢;obtain rfl:x=y:=by omega
    by_cases h4:x<z
    ·rw[ah h4];omega
    ·by_cases h6:z<x
     ·rw[ay h4,ah h6]at h2;omega
     ·simp only[ay h6,ay h4]at h2⊢;exact ih h1 h2
theorem zW(a:fN):kX a a=0:=by unfold kX;rw[ah rfl,CZ]
theorem sS(a b:fN):kX b a= - kX a b:=by
 unfold kX;by_cases h:a.length=b.length
 ·rw[ah h,ah h.symm,E9]
 ·rw[ay h,ay (fun e=>h e.symm)];omega
theorem vt{a b:fN}(h:kX a b=0):a=b:=by
 unfold kX at h;split at h
 ·exact C1 h
 ·omega
theorem um{a b c:fN}(h1:kX a b<=0)(h2:kX b c<=0):kX a c<=0/\(kX a b<0\/kX b c<0->kX a c<0):=by
 unfold kX at *;by_cases h:a.length=b.length
 ·rw[ah h]at h1⊢;by_cases h':b.length=c.length
  ·rw[ah h']at h2⊢;rw[ah (h.trans h')];exact BQ h1 h2
  ·rw[ay h']at h2⊢;rw[ay gq];omega
 ·rw[ay h]at h1⊢;by_cases h':b.length=c.length
  ·rw[ah h']at h2⊢;rw[ay gq];omega
  ·rw[ay h']at h2⊢;rw[ay gq];omega
def jt(xs:List fN):List fN:=xs.mergeSort fun a b=>decide (kX a b<=0)
theorem iK(xs:List fN):(jt xs).Perm xs:=List.mergeSort_perm _ _
theorem qZ{xs:List fN}:(jt xs).length=xs.length:=(iK xs).length_eq
theorem jo(xs:List fN):(jt xs).Pairwise fun a b=>kX a b<=0:=by
 refine(List.pairwise_mergeSort (le:=fun a b=>decide (kX a b<=0)) (fun a b c h1 h2=>?_) (fun a b=>?_) xs).imp (fun h=>cO h)
 ·exact decide_eq_true (um (cO h1) (cO h2)).1
 ·have:=sS a b;simp only[eO,az];omega
theorem mE{l l':List fN}(hp:l.Perm l')(h:l.Pairwise fun a b=>kX a b<=0)(h':l'.Pairwise fun a b=>kX a b<=0):l=l':=by
 refine List.Perm.eq_of_pairwise (fun a b _ _ h1 h2=>?_) h h' hp;have:=sS a b;exact vt gq
end Go.Proofs.YthdnkoejpdcnpaaGreat
namespace Go.Proofs.YthdnkoejpdcnpaaGreat
open Go Go.RowKit Go.Proofs Go.Shelf Go.Lib Go.Sort
structure El(w:World)(blk:Nat) where
 v:Value
 xs:fN
 ok:∃A cap,v=.slice A xs.length cap/\xs.length<2^62/\∀j x,xs[j]?=some x->∃ad:Addr,A=some ad/\ad.block≠blk/\ad.block<w.heap.size/\w.cell? (ad.add j)=some (.int .i64 x)
instance{w:World}{blk:Nat}:Inhabited (El w blk):=⟨⟨.slice none 0 0,[],none,0,rfl,by decide,fun j x h=>by simp at h⟩⟩
theorem yR(a:Addr)(n:Nat):(a.add n).block=a.block:=by unfold Addr.add;split<;>rfl
theorem PC{w:World}{blk:Nat}(x:El w blk)(n m:Nat)(d:Array (El w blk))(os:Array Obj):∃A cap,x.v=.slice A x.xs.length cap/\x.xs.length<2^62/\SL (sortWorld El.v w blk 0 m d os) A x.xs:=by
 obtain⟨A,cap,h1,h2,h3⟩:=x.ok;refine⟨A,cap,h1,h2,fun j y hj=>?_⟩;obtain⟨ad,h4,h5,h6,h7⟩:=h3 j y hj;refine⟨ad,h4,?_⟩;unfold sortWorld;rw[cell?_grow _ _ _ (by rw[size_putRow,yR];exact h6),cell?_putRow_other _ _ _ _ _ _ (.inl (by rw[yR];exact h5))];exact h7
theorem Pb{w:World}{blk:Nat}:SWO (ltOf fun x y:El w blk=>kX x.xs y.xs) where
 irrefl x:=by simp[ltOf,zW]
 trans x y z h1 h2:=by
  simp only[ltOf,az]at *;exact(um gq gq).2 (.inl h1)
 ntrans x y z h1 h2:=by
  simp only[ltOf,bT]at *;have g1:=sS x.xs y.xs;have g2:=sS y.xs z.xs;have g3:=sS x.xs z.xs;have:=(um (a:=z.xs) (b:=y.xs) (c:=x.xs) gq gq).1;omega
theorem Oh{α:Type}[Inhabited α]{d:Array α}{i:Nat}(h:i<d.size):d[i]! =d[i]:=ek d i h
theorem JS{w:World}{blk cap:Nat}{d:Array (El w blk)}(hH:Holds El.v w blk 0 d)(hblk:blk<w.heap.size)(hsz:d.size<4611686018427387904):
 Calls Tryz.prog 126 #[.slice (some ⟨blk,0,none⟩) d.size cap,.func (.func 98) #[] #[]] w fun e w'=>e=.returned (.tuple #[])/\
  ∃(d':Array (El w blk))(n:Nat)(os:Array Obj),w'=sortWorld El.v w blk 0 n d' os/\d'.size=d.size/\d'.toList.Perm d.toList/\d'.toList.map El.xs=jt (d.toList.map El.xs):=by
 have eg:∀args w,(callFunc 98 args).run Tryz.prog w=.ok (.enter 98 args) w:=enters_of Tryz.func98 (by kernel_rfl) rfl;refine(Tryz.xy El.v (fun x=>by obtain⟨A,cap,h,_⟩:=x.ok;rw[h];rfl) (fun x y=>kX x.xs y.xs) Pb 98 #[] blk 0 cap d w eg (fun m os dk hs x y=>?_) hH hblk hsz).mono ?_
 ·obtain⟨A,ca,h1,h2,h3⟩:=PC x 0 m dk os;obtain⟨B,cb,k1,k2,k3⟩:=PC y 0 m dk os;rw[h1,k1];refine(CN x.xs y.xs A B ca cb _ h3 k3 h2 k2).mono ?_;rintro e w' ⟨rfl,rfl⟩;exact⟨rfl,0,#[],by rw[grow_empty];rfl⟩
 ·rintro e w' ⟨rfl,d',n,os,hp,hs,rfl⟩;obtain⟨p1,p2,p3⟩:=hp;have p5:d'.toList.Perm d.toList:=by
   have e1:d'.extract 0 d.size=d':=by rw[<-p1];simp
   have e2:d.extract 0 d.size=d:=by simp
   rw[e1,e2]at p3;exact p3
  refine⟨rfl,d',n,os,rfl,p1,p5,?_⟩;have p4:(d'.toList.map El.xs).Perm (d.toList.map El.xs):=p5.map _;refine mE (p4.trans (iK _).symm) ?_ (jo _);rw[List.pairwise_map,dK];intro i j hi hj hij;have hj':j<d'.size:=by simpa using hj
  have hi':i<d'.size:=by omega
  have:=hs i j (d_ _) hij gq;rw[Oh hj',Oh hi']at this;simp only[ltOf,bT]at this;have g:=sS d'[i].xs d'[j].xs;show kX d'.toList[i].xs d'.toList[j].xs<=0;simp only[Array.getElem_toList];omega
end Go.Proofs.YthdnkoejpdcnpaaGreat
namespace Go.Proofs.YthdnkoejpdcnpaaGreat
open Go kJ Go.RowKit Go.Sort Go.Shelf
attribute [go_sem, simp] qZ
def xF(xs:List fN):Option Unit:=if xs.length<4611686018427387904/\∀x∈xs,x.length<4611686018427387904 then some ()else none
theorem CW:∀(xs:List fN),(gQ (gu 1 iD) xs).length=xs.length
 |[]=>rfl
 |x::xs=>by rw[nc,aj,CW xs];simp[gu,gx];omega
theorem EE{O:kJ.Own}{w:World}{b:Nat}(hO:∀o,O b o):∀{xs:List fN}{vs:List Value},(∀x∈xs,x.length<4611686018427387904)->D.gO O w (gQ (gu 1 iD) xs) vs->
 ∃d:List (El w b),d.map El.v=vs/\d.map El.xs=xs/\∀x∈d,D.ok O w (gu 1 iD x.xs) x.v
 |[],vs,_,h=>by simp only[vz,D.gO]at h;exact⟨[],by simp[h],rfl,fun x hx=>by cases hx⟩
 |x::xs,vs,hl,h=>by
  rw[nc]at h;simp only[gu,gx,b_,D.gO]at h;obtain⟨v,r,rfl,_,h1,h2⟩:=h;obtain⟨d,h3,h4,h9⟩:=EE hO (fun y hy=>hl y (by simp[hy])) h2;have h1':D.ok O w (gu 1 iD x) v:=h1;have h10:=h1';simp only[gu,D.ok,aK]at h1';obtain⟨A,cap,rfl,_,_,hr⟩:=h1';refine⟨⟨.slice A x.length cap,x,A,cap,rfl,hl x (by simp),fun j y hj=>?_⟩::d,by simp[h3],by simp[h4],fun y hy=>?_⟩
  rotate_left
  ·rcases bw.1 hy with rfl|hy
   ·exact h10
   ·exact h9 y hy
  rcases hr with hr|⟨b',o,rfl,hr⟩
  ·simp at hr;subst hr;simp at hj
  ·obtain⟨us,k1,k2,k3⟩:=zA hr (i:=j) (x:=iD y) (by simp[hj]);simp only[D.Dn,D.ok]at k3;obtain⟨u,rfl,rfl,_⟩:=k3;have k4:=k2 0 _ rfl;simp only[eU,cZ]at k4;refine⟨⟨b',o,none⟩,rfl,fun e=>k4.2.1 (by rw[show b'=b from e];exact hO _),rL k4.1,?_⟩;unfold Addr.add;split
   ·rename_i hz;subst hz;simpa using k4.1
   ·exact k4.1
theorem HW{O:kJ.Own}{w:World}{b:Nat}{O':kJ.Own}{w':World}:∀(d:List (El w b)),(∀x∈d,D.ok O' w' (gu 1 iD x.xs) x.v)->D.gO O' w' (gQ (gu 1 iD) (d.map El.xs)) (d.map El.v)
 |[],_=>by simp[vz,D.gO]
 |x::d,h=>by
  simp only[aZ,nc,gu,gx,b_,D.gO];refine⟨_,_,rfl,?_,h x (by simp),HW (O:=O) d fun y hy=>h y (by simp[hy])⟩;obtain⟨A,cap,e,_⟩:=x.ok;rw[e];rfl
set_option maxHeartbeats 1000000 in
instance Vo{xs:List fN}:gP (xF xs) fun _=>gG Tryz.prog 126 [.jM 1 0 xs.length,.fn 98 [] []] [(0,.ij 22 1 xs.length (gQ (gu 1 iD) xs))] 1 fun xx ss=>xx=.l_ []/\ss=[(0,.ij 22 1 xs.length (gQ (gu 1 iD) (jt xs)))]:=⟨fun{rr} h=>by
 unfold xF at h;split at h
 ·rename_i hl;intro C vs hs hk hinv hargs;have hst:St C C.β [] C.s {tmps:=#[],defers:=[]} C.w:=⟨.nil,hinv,rfl,fun i x hx=>by simp at hx⟩;have ho:=hinv.obs 0;rw[show sat C.s 0=.ij 22 1 xs.length (gQ (gu 1 iD) xs) by rw[hs];rfl]at ho;obtain⟨u,hβ,hlen,hg⟩:=ho;have hdead:∀id,id≠0->C.β id=.no:=fun id hid=>by
   have:=hinv.obs id;rw[hs,show sat [(0,Ob.ij 22 1 xs.length (gQ (gu 1 iD) xs))] id=.dead by simp[sat,hid]]at this;exact this
  simp only[AV.gO,AV.ok]at hargs;obtain⟨v,r,hv,⟨u',m,g1,g2,g3,_⟩,v2,r2,rfl,⟨fs,cs,rfl,h5,h6⟩,rfl⟩:=hargs;rw[hβ]at g1;obtain⟨rfl,rfl⟩:u'=u/\m=xs.length:=by simpa[Place.at,eq_comm]using g1
  have hvu:=g3 rfl;subst hvu;have e1:fs=#[]:=cG h5;have e2:cs=#[]:=cG h6;subst e1 e2;have e3:vs=#[v,.func (.func 98) #[] #[]]:=cG hv;subst e3;rcases hg with⟨rfl,h0⟩|⟨b,cap,us,rfl,hb,hus,hncap,hcap,hone,pre,rest,hpre,hoks⟩
  ·have hx:xs=[]:=bV h0;subst hx;refine(Tryz.uI (α:=Nat) none 0 _ C.w).mono ?_;rintro e w' ⟨rfl,rfl⟩;refine⟨.tuple #[],.l_ [],C.β,C.s,rfl,hinv,?_,rfl,by rw[hs];simp[jt]⟩;simp only[AV.ok,AV.gO];exact⟨#[],rfl,rfl⟩
  ·have hO:∀o,C.gD C.β C.s b o:=fun o=>.inr ⟨0,by rw[hs];exact⟨cap,hβ⟩⟩
   obtain⟨d,hd1,hd2,hd3⟩:=EE hO hl.2 hoks;have hdl:d.length=xs.length:=by rw[<-hd2,aK]
   have hbs:b<C.w.heap.size:=(bu.1 hb).1;have hpl:pre.length=d.length:=by rw[<-hd1,aK]
   have hH:Holds El.v C.w b 0 d.toArray:=fun j hj=>by
    have hj':j<d.length:=by simpa using hj
    have g:us[j]?=some d[j].v:=by
     have:us.toList[j]?=some d[j].v:=by rw[hpre,aT gq,<-hd1];simp[hj']
     simpa using this
    refine⟨?_,by simp[World.frozen?,hb]⟩;rw[ek _ j hj];simp only[World.cell?,hb,aX];simpa using g
   have W:=JS (cap:=cap) hH hbs (by simp;omega);rw[show d.toArray.size=xs.length by simp[hdl]]at W;refine W.mono ?_;rintro e w' ⟨rfl,d',n,os,rfl,hs',hperm,hsorted⟩;have hs2:d'.size=d.length:=by rw[hdl];exact hs'
   have hp2:d'.toList.Perm d:=by simpa using hperm
   have hs3:d'.toList.map El.xs=jt xs:=by rw[hsorted];simp[hd2]
   have H2:∀k,k≠b->k<C.w.heap.size->(sortWorld El.v C.w b 0 n d' os).heap[k]?=C.w.heap[k]?:=fun k hk hlt=>by
    simp only[sortWorld,grow,putRow,mapBlock,Go.Sort.ahead];rw[dG (by simpa using hlt),dV,ay (fun e=>hk e.symm)]
   have H3:(sortWorld El.v C.w b 0 n d' os).heap[b]?=some (.cells (putCells El.v 0 d' us) 22 (0,0)):=by
    simp only[sortWorld,grow,putRow,mapBlock,Go.Sort.ahead];rw[dG (by simpa using hbs),dV,ah rfl,hb];rfl
   have H4:(putCells El.v 0 d' us).toList=d'.toList.map El.v++rest:=by
    apply dB;intro k;simp only[putCells,Array.toList_mapIdx,List.getElem?_mapIdx,d_,eT,aX,Nat.sub_zero,hpre];by_cases hk:k<d'.size
    ·rw[aT (by rw[hpl];omega),aT (by simpa using hk)];rw[aA (show k<pre.length by omega)];simp[hk]
    ·rw[bI (by rw[hpl];omega),bI (by simpa using hk)];have:k-pre.length=k-(d'.toList.map El.v).length:=by simp;omega
     rw[this];cases hq:rest[k-(d'.toList.map El.v).length]? with
     |none=>rfl
     |some z=>simp[hk]
   have same:∀b' o,own C.β [(0,Ob.ij 22 1 xs.length (gQ (gu 1 iD) (jt xs)))] b' o<->own C.β C.s b' o:=fun b' o=>by
    rw[hs];constructor
    ·rintro⟨id,h⟩;by_cases hid:id=0
     ·subst hid;exact⟨0,h⟩
     ·rw[show sat [(0,Ob.ij 22 1 xs.length (gQ (gu 1 iD) (jt xs)))] id=.dead by simp[sat,hid]]at h;exact h.elim
    ·rintro⟨id,h⟩;by_cases hid:id=0
     ·subst hid;exact⟨0,h⟩
     ·rw[show sat [(0,Ob.ij 22 1 xs.length (gQ (gu 1 iD) xs))] id=.dead by simp[sat,hid]]at h;exact h.elim
   have sameB:∀id b',gw C.β [(0,Ob.ij 22 1 xs.length (gQ (gu 1 iD) (jt xs)))] id b'<->gw C.β C.s id b':=fun id b'=>by
    rw[hs];by_cases hid:id=0
    ·subst hid;exact cE
    ·unfold gw;rw[show sat [(0,Ob.ij 22 1 xs.length (gQ (gu 1 iD) (jt xs)))] id=.dead by simp[sat,hid],show sat [(0,Ob.ij 22 1 xs.length (gQ (gu 1 iD) xs))] id=.dead by simp[sat,hid]]
   have m:lM C.β C.s C.w C.β [(0,Ob.ij 22 1 xs.length (gQ (gu 1 iD) (jt xs)))] (sortWorld El.v C.w b 0 n d' os):={
    size:=by simp only[sortWorld,grow,putRow,mapBlock,Go.Sort.ahead];simp
    io:=rfl
    keep:=fun b' o v hc hn=>by
     have hne:b'≠b:=fun e=>hn (by subst e;exact⟨0,by rw[hs];exact⟨cap,hβ⟩⟩)
     have:=H2 b' hne (rL hc);simp only[World.cell?]at hc⊢;rw[this];exact hc
    sk:=fun b' hlt hn=>H2 b' (fun e=>hn 0 (by subst e;rw[hs];exact⟨cap,hβ⟩)) hlt
    qb:=fun b' o h=>.inl ((same b' o).1 h)
    tH:=fun id b' h=>.inl ⟨id,(sameB id b').1 h⟩
    pl:=fun id=>.refl _}
   have hst':=hst.move m (fun id=>by
    by_cases hid:id=0
    ·subst hid;show tR C.β _ _ 0 (.ij 22 1 xs.length (gQ (gu 1 iD) (jt xs)));refine⟨_,hβ,by rw[CW,qZ];omega,.inr ⟨b,cap,_,rfl,H3,by simp[putCells,hus],hncap,hcap,?_,_,rest,H4,?_⟩⟩
     ·intro z hz;rw[H4,aM]at hz;rcases hz with hz|hz
      ·obtain⟨y,_,rfl⟩:=aY.1 hz;obtain⟨A,ca,e,_⟩:=y.ok;rw[e];rfl
      ·exact hone z (by rw[hpre];simp[hz])
     ·have g:D.gO (C.gD C.β [(0,Ob.ij 22 1 xs.length (gQ (gu 1 iD) (jt xs)))]) (sortWorld El.v C.w b 0 n d' os) (gQ (gu 1 iD) (d'.toList.map El.xs)) (d'.toList.map El.v):=?_
      ·rw[hs3]at g;exact g
      refine HW (O:=C.O) d'.toList fun y hy=>?_
      have:=m.ok (C:=C) (x:=.d (gu 1 iD y.xs)) (v:=y.v) (by simp only[AV.ok];exact hd3 y (hp2.mem_iff.1 hy));simp only[AV.ok]at this;exact this
    ·rw[show sat [(0,Ob.ij 22 1 xs.length (gQ (gu 1 iD) (jt xs)))] id=.dead by simp[sat,hid]];exact hdead id hid) (fun i j b' hi hj=>hinv.inj i j b' ((sameB i b').1 hi) ((sameB j b').1 hj))
   refine⟨.tuple #[],.l_ [],C.β,_,rfl,hst'.inv,?_,rfl,rfl⟩;simp only[AV.ok,AV.gO];exact⟨#[],rfl,rfl⟩
 ·cases h⟩
end Go.Proofs.YthdnkoejpdcnpaaGreat
namespace Go.Proofs.YthdnkoejpdcnpaaGreat
open Go Go.RowKit Go.Proofs
def lG:List fN->List fN->Int
 |[],[]=>0
 |[],_::_=> -1
 |_::_,[]=>1
 |x::xs,y::ys=>if kX x y=0 then lG xs ys else kX x y
theorem zU:∀a:List fN,lG a a=0
 |[]=>rfl
 |x::xs=>by simp[lG,zW,zU xs]
theorem sR:∀a b:List fN,lG b a= - lG a b
 |[],[]=>rfl
 |[],_::_=>rfl
 |_::_,[]=>rfl
 |x::xs,y::ys=>by
  simp only[lG];have h1:=sR xs ys;have h2:=sS x y;by_cases h:kX x y=0
  ·rw[ah h,ah gq];exact h1
  ·rw[ay h,ay gq];exact h2
theorem zV:∀{a b:List fN},lG a b=0->a=b
 |[],[],_=>rfl
 |[],_::_,h=>by simp[lG]at h
 |_::_,[],h=>by simp[lG]at h
 |x::xs,y::ys,h=>by
  simp only[lG]at h;by_cases h1:kX x y=0
  ·rw[ah h1]at h;rw[zV h,vt h1]
  ·rw[ay h1]at h;exact absurd h h1
theorem sn:∀{a b c:List fN},lG a b<=0->lG b c<=0->lG a c<=0/\(lG a b<0\/lG b c<0->lG a c<0)
 |[],[],c,h1,h2=>⟨h2,fun h=>h.elim (fun h=>by simp[lG]at h) id⟩
 |[],_::_,[],h1,h2=>by simp[lG]at h2
 |[],_::_,_::_,h1,h2=>by simp[lG]
 |_::_,[],_,h1,h2=>by simp[lG]at h1
 |_::_,_::_,[],h1,h2=>by simp[lG]at h2
 |x::xs,y::ys,z::zs,h1,h2=>by
  have ih:=fun h1 h2=>sn (a:=xs) (b:=ys) (c:=zs) h1 h2
  simp only[lG]at h1 h2⊢;by_cases h3:kX x y=0
  ·obtain rfl:=vt h3;rw[ah h3]at h1⊢;by_cases h4:kX x z=0
   ·simp only[ah h4]at h2⊢;exact ih h1 h2
   ·simp only[ay h4]at h2⊢;omega
  ·rw[ay h3]at h1⊢;by_cases h4:kX y z=0
   ·obtain rfl:=vt h4;simp only[ay h3];omega
   ·rw[ay h4]at h2⊢;have:=um (a:=x) (b:=y) (c:=z) h1 h2;have h5:=this.2 (.inl gq);rw[ay gq];omega
def rV(xs:List fO):List fO:=xs.mergeSort fun a b=>decide (lG a b<=0)
theorem yC(xs:List fO):(rV xs).Perm xs:=List.mergeSort_perm _ _
theorem xW{xs:List fO}:(rV xs).length=xs.length:=(yC xs).length_eq
theorem zF(xs:List fO):(rV xs).Pairwise fun a b=>lG a b<=0:=by
 refine(List.pairwise_mergeSort (le:=fun a b=>decide (lG a b<=0)) (fun a b c h1 h2=>?_) (fun a b=>?_) xs).imp (fun h=>cO h)
 ·exact decide_eq_true (sn (cO h1) (cO h2)).1
 ·have:=sR a b;simp only[eO,az];omega
theorem B9{l l':List fO}(hp:l.Perm l')(h:l.Pairwise fun a b=>lG a b<=0)(h':l'.Pairwise fun a b=>lG a b<=0):l=l':=by
 refine List.Perm.eq_of_pairwise (fun a b _ _ h1 h2=>?_) h h' hp;have:=sR a b;exact zV gq
end Go.Proofs.YthdnkoejpdcnpaaGreat
namespace Go.Proofs.YthdnkoejpdcnpaaGreat
open Go Go.RowKit Go.Proofs Go.Shelf Go.Lib Go.Sort
def S3(w:World)(A:Option Addr)(xs:List fN):Prop:=∀j x,xs[j]?=some x->∃ad B cb,A=some ad/\w.cell? (ad.add j)=some (.slice B x.length cb)/\x.length<2^62/\SL w B x
set_option maxHeartbeats 4000000 in
theorem K_(xs ys:List fN)(A B:Option Addr)(ca cb:Nat)(w:World)(hx:S3 w A xs)(hy:S3 w B ys)(h1:xs.length<2^62)(h2:ys.length<2^62):
 Calls Tryz.prog 97 #[.slice A xs.length ca,.slice B ys.length cb,.func (.func 98) #[] #[]] w fun e w'=>e=.returned (.int .i64 (lG xs ys))/\w'=w:=by
 have eg:∀args w,(callFunc 98 args).run Tryz.prog w=.ok (.enter 98 args) w:=enters_of Tryz.func98 (by kernel_rfl) rfl
 go_enter Tryz.func97,Tryz.ntmps97
 go_wp2
 go_loopw [13] (fun i wr=>∃q:Nat,i=.int .i64 q/\q<=xs.length/\q<=ys.length/\wr=w/\lG xs ys=lG (xs.drop q) (ys.drop q)) (fun i _=>(xs.length-intOf i).toNat)
 case atStart=>exact⟨0,rfl,gq,gq,rfl,by simp⟩
 case round=>
  obtain⟨q,rfl,hq,hq2,rfl,hl⟩:=hrel;by_cases ha:q<xs.length
  ·obtain⟨ad,B1,c1,rfl,cx,lx,rx⟩:=hx q _ (aA ha);by_cases hb:q<ys.length
   ·obtain⟨bd,B2,c2,rfl,cy,ly,ry⟩:=hy q _ (aA hb);have hl':lG xs ys=if kX xs[q] ys[q]=0 then lG (xs.drop (q+1)) (ys.drop (q+1))else kX xs[q] ys[q]:=by rw[hl,aH ha,aH hb];rfl
    have C:=CN xs[q] ys[q] B1 B2 c1 c2 _ rx ry lx ly;clear hl hx hy rx ry;generalize xs[q]=x at *;generalize ys[q]=y at *;by_cases h:kX x y=0
    ·simp only[ah h]at hl';rw[h]at C
     go_wp2_with (go_at_call 98;refine C.mono ?_;rintro e w' ⟨rfl,rfl⟩)
     go_roundw
     case rel=>exact⟨q+1,by go_num,gq,gq,by trivial,hl'⟩
     case measure=>simp[intOf];omega
    ·simp only[ay h]at hl'
     go_wp2_with (go_at_call 98;refine C.mono ?_;rintro e w' ⟨rfl,rfl⟩)
     go_ret
     exact⟨by rw[hl'];rfl,rfl⟩
   ·have e:lG xs ys=1:=by rw[hl,aH ha,bp (show ys.length<=q by omega)];rfl
    have:q=ys.length:=by omega
    subst this
    go_wp2
    go_ret
    exact⟨by rw[e];rfl,rfl⟩
  ·have:q=xs.length:=by omega
   subst this;rw[eL]at hl;by_cases hb:xs.length<ys.length
   ·have e:lG xs ys= -1:=by rw[hl,aH hb];rfl
    go_wp2
    go_ret
    exact⟨by rw[e];rfl,rfl⟩
   ·have e:lG xs ys=0:=by rw[hl,bp gq];rfl
    go_wp2
    go_ret
    exact⟨by rw[e];rfl,rfl⟩
theorem Jg(xs ys:List fN)(A B:Option Addr)(ca cb:Nat)(w:World)(hx:S3 w A xs)(hy:S3 w B ys)(h1:xs.length<2^62)(h2:ys.length<2^62):
 Calls Tryz.prog 96 #[.slice A xs.length ca,.slice B ys.length cb] w fun e w'=>e=.returned (.int .i64 (lG xs ys))/\w'=w:=by
 have L:=K_ xs ys A B ca cb w hx hy h1 h2;clear hx hy;generalize lG xs ys=c at L⊢;generalize xs.length=n at *;generalize ys.length=m at *;clear xs ys
 go_enter Tryz.func96,Tryz.ntmps96
 go_wp2_with (go_at_call 97;refine L.mono ?_;rintro e w' ⟨rfl,rfl⟩)
 go_ret
 exact⟨rfl,rfl⟩
structure Es(w:World)(blk:Nat) where
 v:Value
 xs:List fN
 ok:∃A cap,v=.slice A xs.length cap/\xs.length<2^62/\∀j x,xs[j]?=some x->∃(ad:Addr)(B:Option Addr)(cb:Nat),A=some ad/\ad.block≠blk/\ad.block<w.heap.size/\w.cell? (ad.add j)=some (.slice B x.length cb)/\x.length<2^62/\
  ∀k y,x[k]?=some y->∃bd:Addr,B=some bd/\bd.block≠blk/\bd.block<w.heap.size/\w.cell? (bd.add k)=some (.int .i64 y)
instance{w:World}{blk:Nat}:Inhabited (Es w blk):=⟨⟨.slice none 0 0,[],none,0,rfl,by decide,fun j x h=>by simp at h⟩⟩
theorem PD{w:World}{blk:Nat}(x:Es w blk)(n m:Nat)(d:Array (Es w blk))(os:Array Obj):∃A cap,x.v=.slice A x.xs.length cap/\x.xs.length<2^62/\S3 (sortWorld Es.v w blk 0 m d os) A x.xs:=by
 obtain⟨A,cap,h1,h2,h3⟩:=x.ok;have K:∀(ad:Addr)(j:Nat),ad.block≠blk->ad.block<w.heap.size->(sortWorld Es.v w blk 0 m d os).cell? (ad.add j)=w.cell? (ad.add j):=fun ad j h5 h6=>by
  unfold sortWorld;rw[cell?_grow _ _ _ (by rw[size_putRow,yR];exact h6),cell?_putRow_other _ _ _ _ _ _ (.inl (by rw[yR];exact h5))];rfl
 refine⟨A,cap,h1,h2,fun j y hj=>?_⟩;obtain⟨ad,B,cb,h4,h5,h6,h7,h8,h9⟩:=h3 j y hj;refine⟨ad,B,cb,h4,(K ad j h5 h6).trans h7,h8,fun k z hk=>?_⟩;obtain⟨bd,g4,g5,g6,g7⟩:=h9 k z hk;exact⟨bd,g4,(K bd k g5 g6).trans g7⟩
theorem MM{w:World}{blk:Nat}:SWO (ltOf fun x y:Es w blk=>lG x.xs y.xs) where
 irrefl x:=by simp[ltOf,zU]
 trans x y z h1 h2:=by
  simp only[ltOf,az]at *;exact(sn gq gq).2 (.inl h1)
 ntrans x y z h1 h2:=by
  simp only[ltOf,bT]at *;have g1:=sR x.xs y.xs;have g2:=sR y.xs z.xs;have g3:=sR x.xs z.xs;have:=(sn (a:=z.xs) (b:=y.xs) (c:=x.xs) gq gq).1;omega
theorem He{w:World}{blk cap:Nat}{d:Array (Es w blk)}(hH:Holds Es.v w blk 0 d)(hblk:blk<w.heap.size)(hsz:d.size<4611686018427387904):
 Calls Tryz.prog 95 #[.slice (some ⟨blk,0,none⟩) d.size cap,.func (.func 96) #[] #[]] w fun e w'=>e=.returned (.tuple #[])/\
  ∃(d':Array (Es w blk))(n:Nat)(os:Array Obj),w'=sortWorld Es.v w blk 0 n d' os/\d'.size=d.size/\d'.toList.Perm d.toList/\d'.toList.map Es.xs=rV (d.toList.map Es.xs):=by
 have eg:∀args w,(callFunc 96 args).run Tryz.prog w=.ok (.enter 96 args) w:=enters_of Tryz.func96 (by kernel_rfl) rfl;refine(Tryz.x_ Es.v (fun x=>by obtain⟨A,cap,h,_⟩:=x.ok;rw[h];rfl) (fun x y=>lG x.xs y.xs) MM 96 #[] blk 0 cap d w eg (fun m os dk hs x y=>?_) hH hblk hsz).mono ?_
 ·obtain⟨A,ca,h1,h2,h3⟩:=PD x 0 m dk os;obtain⟨B,cb,k1,k2,k3⟩:=PD y 0 m dk os;rw[h1,k1];refine(Jg x.xs y.xs A B ca cb _ h3 k3 h2 k2).mono ?_;rintro e w' ⟨rfl,rfl⟩;exact⟨rfl,0,#[],by rw[grow_empty];rfl⟩
 ·rintro e w' ⟨rfl,d',n,os,hp,hs,rfl⟩;obtain⟨p1,p2,p3⟩:=hp;have p5:d'.toList.Perm d.toList:=by
   have e1:d'.extract 0 d.size=d':=by rw[<-p1];simp
   have e2:d.extract 0 d.size=d:=by simp
   rw[e1,e2]at p3;exact p3
  refine⟨rfl,d',n,os,rfl,p1,p5,?_⟩;have p4:(d'.toList.map Es.xs).Perm (d.toList.map Es.xs):=p5.map _;refine B9 (p4.trans (yC _).symm) ?_ (zF _);rw[List.pairwise_map,dK];intro i j hi hj hij;have hj':j<d'.size:=by simpa using hj
  have hi':i<d'.size:=by omega
  have:=hs i j (d_ _) hij gq;rw[Oh hj',Oh hi']at this;simp only[ltOf,bT]at this;have g:=sR d'[i].xs d'[j].xs;show lG d'.toList[i].xs d'.toList[j].xs<=0;simp only[Array.getElem_toList];omega
end Go.Proofs.YthdnkoejpdcnpaaGreat
namespace Go.Proofs.YthdnkoejpdcnpaaGreat
open Go kJ Go.RowKit Go.Sort Go.Shelf
attribute [go_sem, simp] xW
def xE(xs:List fO):Option Unit:=if xs.length<4611686018427387904/\∀x∈xs,x.length<4611686018427387904/\∀y∈x,y.length<4611686018427387904 then some ()else none
theorem CX:∀(xs:List fO),(gQ (gu 1 (gu 1 iD)) xs).length=xs.length
 |[]=>rfl
 |x::xs=>by rw[nc,aj,CX xs];simp[gu,gx];omega
theorem EF{O:kJ.Own}{w:World}{b:Nat}(hO:∀o,O b o):∀{xs:List fO}{vs:List Value},(∀x∈xs,x.length<4611686018427387904/\∀y∈x,y.length<4611686018427387904)->D.gO O w (gQ (gu 1 (gu 1 iD)) xs) vs->
 ∃d:List (Es w b),d.map Es.v=vs/\d.map Es.xs=xs/\∀x∈d,D.ok O w (gu 1 (gu 1 iD) x.xs) x.v
 |[],vs,_,h=>by simp only[vz,D.gO]at h;exact⟨[],by simp[h],rfl,fun x hx=>by cases hx⟩
 |x::xs,vs,hl,h=>by
  rw[nc]at h;simp only[gu,gx,b_,D.gO]at h;obtain⟨v,r,rfl,_,h1,h2⟩:=h;obtain⟨d,h3,h4,h9⟩:=EF hO (fun y hy=>hl y (by simp[hy])) h2;have h1':D.ok O w (gu 1 (gu 1 iD) x) v:=h1;have h10:=h1';simp only[gu,D.ok,aK]at h1';obtain⟨A,cap,rfl,_,_,hr⟩:=h1';refine⟨⟨.slice A x.length cap,x,A,cap,rfl,(hl x (by simp)).1,fun j y hj=>?_⟩::d,by simp[h3],by simp[h4],fun y hy=>?_⟩
  rotate_left
  ·rcases bw.1 hy with rfl|hy
   ·exact h10
   ·exact h9 y hy
  have hym:y∈x:=bR hj;rcases hr with hr|⟨b',o,rfl,hr⟩
  ·simp at hr;subst hr;simp at hj
  ·obtain⟨us,k1,k2,k3⟩:=zA hr (i:=j) (x:=gu 1 iD y) (by simp[hj,gu]);simp only[gu,D.Dn,D.ok,aK]at k3;obtain⟨u,rfl,B,cb,rfl,_,_,hr2⟩:=k3;have k4:=k2 0 _ rfl;simp only[eU,cZ]at k4;refine⟨⟨b',o,none⟩,B,cb,rfl,fun e=>k4.2.1 (by rw[show b'=b from e];exact hO _),rL k4.1,?_,(hl x (by simp)).2 y hym,fun k z hk=>?_⟩
   ·unfold Addr.add;split
    ·rename_i hz;subst hz;simpa using k4.1
    ·exact k4.1
   ·rcases hr2 with hr2|⟨b2,o2,rfl,hr2⟩
    ·simp at hr2;subst hr2;simp at hk
    ·obtain⟨us2,q1,q2,q3⟩:=zA hr2 (i:=k) (x:=iD z) (by simp[hk]);simp only[D.Dn,D.ok]at q3;obtain⟨u2,rfl,rfl,_⟩:=q3;have q4:=q2 0 _ rfl;simp only[eU,cZ]at q4;refine⟨⟨b2,o2,none⟩,rfl,fun e=>q4.2.1 (by rw[show b2=b from e];exact hO _),rL q4.1,?_⟩;unfold Addr.add;split
     ·rename_i hz;subst hz;simpa using q4.1
     ·exact q4.1
theorem HX{O:kJ.Own}{w:World}{b:Nat}{O':kJ.Own}{w':World}:∀(d:List (Es w b)),(∀x∈d,D.ok O' w' (gu 1 (gu 1 iD) x.xs) x.v)->D.gO O' w' (gQ (gu 1 (gu 1 iD)) (d.map Es.xs)) (d.map Es.v)
 |[],_=>by simp[vz,D.gO]
 |x::d,h=>by
  simp only[aZ,nc,gu,gx,b_,D.gO];refine⟨_,_,rfl,?_,h x (by simp),HX (O:=O) d fun y hy=>h y (by simp[hy])⟩;obtain⟨A,cap,e,_⟩:=x.ok;rw[e];rfl
set_option maxHeartbeats 1000000 in
instance Vn{xs:List fO}:gP (xE xs) fun _=>gG Tryz.prog 95 [.jM 1 0 xs.length,.fn 96 [] []] [(0,.ij 45 1 xs.length (gQ (gu 1 (gu 1 iD)) xs))] 1 fun xx ss=>xx=.l_ []/\ss=[(0,.ij 45 1 xs.length (gQ (gu 1 (gu 1 iD)) (rV xs)))]:=⟨fun{rr} h=>by
 unfold xE at h;split at h
 ·rename_i hl;intro C vs hs hk hinv hargs;have hst:St C C.β [] C.s {tmps:=#[],defers:=[]} C.w:=⟨.nil,hinv,rfl,fun i x hx=>by simp at hx⟩;have ho:=hinv.obs 0;rw[show sat C.s 0=.ij 45 1 xs.length (gQ (gu 1 (gu 1 iD)) xs) by rw[hs];rfl]at ho;obtain⟨u,hβ,hlen,hg⟩:=ho;have hdead:∀id,id≠0->C.β id=.no:=fun id hid=>by
   have:=hinv.obs id;rw[hs,show sat [(0,Ob.ij 45 1 xs.length (gQ (gu 1 (gu 1 iD)) xs))] id=.dead by simp[sat,hid]]at this;exact this
  simp only[AV.gO,AV.ok]at hargs;obtain⟨v,r,hv,⟨u',m,g1,g2,g3,_⟩,v2,r2,rfl,⟨fs,cs,rfl,h5,h6⟩,rfl⟩:=hargs;rw[hβ]at g1;obtain⟨rfl,rfl⟩:u'=u/\m=xs.length:=by simpa[Place.at,eq_comm]using g1
  have hvu:=g3 rfl;subst hvu;have e1:fs=#[]:=cG h5;have e2:cs=#[]:=cG h6;subst e1 e2;have e3:vs=#[v,.func (.func 96) #[] #[]]:=cG hv;subst e3;rcases hg with⟨rfl,h0⟩|⟨b,cap,us,rfl,hb,hus,hncap,hcap,hone,pre,rest,hpre,hoks⟩
  ·have hx:xs=[]:=bV h0;subst hx;refine(Tryz.vj (α:=Nat) none 0 _ C.w).mono ?_;rintro e w' ⟨rfl,rfl⟩;refine⟨.tuple #[],.l_ [],C.β,C.s,rfl,hinv,?_,rfl,by rw[hs];simp[rV]⟩;simp only[AV.ok,AV.gO];exact⟨#[],rfl,rfl⟩
  ·have hO:∀o,C.gD C.β C.s b o:=fun o=>.inr ⟨0,by rw[hs];exact⟨cap,hβ⟩⟩
   obtain⟨d,hd1,hd2,hd3⟩:=EF hO hl.2 hoks;have hdl:d.length=xs.length:=by rw[<-hd2,aK]
   have hbs:b<C.w.heap.size:=(bu.1 hb).1;have hpl:pre.length=d.length:=by rw[<-hd1,aK]
   have hH:Holds Es.v C.w b 0 d.toArray:=fun j hj=>by
    have hj':j<d.length:=by simpa using hj
    have g:us[j]?=some d[j].v:=by
     have:us.toList[j]?=some d[j].v:=by rw[hpre,aT gq,<-hd1];simp[hj']
     simpa using this
    refine⟨?_,by simp[World.frozen?,hb]⟩;rw[ek _ j hj];simp only[World.cell?,hb,aX];simpa using g
   have W:=He (cap:=cap) hH hbs (by simp;omega);rw[show d.toArray.size=xs.length by simp[hdl]]at W;refine W.mono ?_;rintro e w' ⟨rfl,d',n,os,rfl,hs',hperm,hsorted⟩;have hs2:d'.size=d.length:=by rw[hdl];exact hs'
   have hp2:d'.toList.Perm d:=by simpa using hperm
   have hs3:d'.toList.map Es.xs=rV xs:=by rw[hsorted];simp[hd2]
   have H2:∀k,k≠b->k<C.w.heap.size->(sortWorld Es.v C.w b 0 n d' os).heap[k]?=C.w.heap[k]?:=fun k hk hlt=>by
    simp only[sortWorld,grow,putRow,mapBlock,Go.Sort.ahead];rw[dG (by simpa using hlt),dV,ay (fun e=>hk e.symm)]
   have H3:(sortWorld Es.v C.w b 0 n d' os).heap[b]?=some (.cells (putCells Es.v 0 d' us) 45 (0,0)):=by
    simp only[sortWorld,grow,putRow,mapBlock,Go.Sort.ahead];rw[dG (by simpa using hbs),dV,ah rfl,hb];rfl
   have H4:(putCells Es.v 0 d' us).toList=d'.toList.map Es.v++rest:=by
    apply dB;intro k;simp only[putCells,Array.toList_mapIdx,List.getElem?_mapIdx,d_,eT,aX,Nat.sub_zero,hpre];by_cases hk:k<d'.size
    ·rw[aT (by rw[hpl];omega),aT (by simpa using hk)];rw[aA (show k<pre.length by omega)];simp[hk]
    ·rw[bI (by rw[hpl];omega),bI (by simpa using hk)];have:k-pre.length=k-(d'.toList.map Es.v).length:=by simp;omega
     rw[this];cases hq:rest[k-(d'.toList.map Es.v).length]? with
     |none=>rfl
     |some z=>simp[hk]
   have same:∀b' o,own C.β [(0,Ob.ij 45 1 xs.length (gQ (gu 1 (gu 1 iD)) (rV xs)))] b' o<->own C.β C.s b' o:=fun b' o=>by
    rw[hs];constructor
    ·rintro⟨id,h⟩;by_cases hid:id=0
     ·subst hid;exact⟨0,h⟩
     ·rw[show sat [(0,Ob.ij 45 1 xs.length (gQ (gu 1 (gu 1 iD)) (rV xs)))] id=.dead by simp[sat,hid]]at h;exact h.elim
    ·rintro⟨id,h⟩;by_cases hid:id=0
     ·subst hid;exact⟨0,h⟩
     ·rw[show sat [(0,Ob.ij 45 1 xs.length (gQ (gu 1 (gu 1 iD)) xs))] id=.dead by simp[sat,hid]]at h;exact h.elim
   have sameB:∀id b',gw C.β [(0,Ob.ij 45 1 xs.length (gQ (gu 1 (gu 1 iD)) (rV xs)))] id b'<->gw C.β C.s id b':=fun id b'=>by
    rw[hs];by_cases hid:id=0
    ·subst hid;exact cE
    ·unfold gw;rw[show sat [(0,Ob.ij 45 1 xs.length (gQ (gu 1 (gu 1 iD)) (rV xs)))] id=.dead by simp[sat,hid],show sat [(0,Ob.ij 45 1 xs.length (gQ (gu 1 (gu 1 iD)) xs))] id=.dead by simp[sat,hid]]
   have m:lM C.β C.s C.w C.β [(0,Ob.ij 45 1 xs.length (gQ (gu 1 (gu 1 iD)) (rV xs)))] (sortWorld Es.v C.w b 0 n d' os):={
    size:=by simp only[sortWorld,grow,putRow,mapBlock,Go.Sort.ahead];simp
    io:=rfl
    keep:=fun b' o v hc hn=>by
     have hne:b'≠b:=fun e=>hn (by subst e;exact⟨0,by rw[hs];exact⟨cap,hβ⟩⟩)
     have:=H2 b' hne (rL hc);simp only[World.cell?]at hc⊢;rw[this];exact hc
    sk:=fun b' hlt hn=>H2 b' (fun e=>hn 0 (by subst e;rw[hs];exact⟨cap,hβ⟩)) hlt
    qb:=fun b' o h=>.inl ((same b' o).1 h)
    tH:=fun id b' h=>.inl ⟨id,(sameB id b').1 h⟩
    pl:=fun id=>.refl _}
   have hst':=hst.move m (fun id=>by
    by_cases hid:id=0
    ·subst hid;show tR C.β _ _ 0 (.ij 45 1 xs.length (gQ (gu 1 (gu 1 iD)) (rV xs)));refine⟨_,hβ,by rw[CX,xW];omega,.inr ⟨b,cap,_,rfl,H3,by simp[putCells,hus],hncap,hcap,?_,_,rest,H4,?_⟩⟩
     ·intro z hz;rw[H4,aM]at hz;rcases hz with hz|hz
      ·obtain⟨y,_,rfl⟩:=aY.1 hz;obtain⟨A,ca,e,_⟩:=y.ok;rw[e];rfl
      ·exact hone z (by rw[hpre];simp[hz])
     ·have g:D.gO (C.gD C.β [(0,Ob.ij 45 1 xs.length (gQ (gu 1 (gu 1 iD)) (rV xs)))]) (sortWorld Es.v C.w b 0 n d' os) (gQ (gu 1 (gu 1 iD)) (d'.toList.map Es.xs)) (d'.toList.map Es.v):=?_
      ·rw[hs3]at g;exact g
      refine HX (O:=C.O) d'.toList fun y hy=>?_
      have:=m.ok (C:=C) (x:=.d (gu 1 (gu 1 iD) y.xs)) (v:=y.v) (by simp only[AV.ok];exact hd3 y (hp2.mem_iff.1 hy));simp only[AV.ok]at this;exact this
    ·rw[show sat [(0,Ob.ij 45 1 xs.length (gQ (gu 1 (gu 1 iD)) (rV xs)))] id=.dead by simp[sat,hid]];exact hdead id hid) (fun i j b' hi hj=>hinv.inj i j b' ((sameB i b').1 hi) ((sameB j b').1 hj))
   refine⟨.tuple #[],.l_ [],C.β,_,rfl,hst'.inv,?_,rfl,rfl⟩;simp only[AV.ok,AV.gO];exact⟨#[],rfl,rfl⟩
 ·cases h⟩
end Go.Proofs.YthdnkoejpdcnpaaGreat
