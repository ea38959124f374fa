/- A part of the proof about FnAcNormal and about FnAcSteps (S1, S2, S3, S4, S5, S6, S7, S8). -/
import Derived.Test.YthdnkoejpdcnpaaGreatNac
import Derived.Test.YthdnkoejpdcnpaaGreatNad
import Derived.WalkKit
import Derived.KernelRfl
import Derived.Shelf.SlSortCmp.NoneTotal
set_option linter.all false
namespace Go.Proofs.YthdnkoejpdcnpaaGreat
open Go Go.RowKit Go.Proofs
def Vx(w:World)(A:Option Addr)(xs:fP):Prop:=∀j x,xs[j]?=some x->∃ad,A=some ad/\w.cell? (ad.add j)=some (.int .i64 x)
def qm:fP->fP->Int
 |[],[]=>0
 |[],_::_=> -1
 |_::_,[]=>1
 |x::xs,y::ys=>if x<y then -1 else if y<x then 1 else qm xs ys
def lR(a b:fP):Int:=if a.length=b.length then qm a b else(a.length:Int)-b.length
set_option maxHeartbeats 1000000 in
theorem Dg(x y:Int)(w:World):Calls Tryz.prog 193 #[.int .i64 x,.int .i64 y] w fun e w'=>e=.returned (.int .i64 (if x<y then -1 else if y<x then 1 else 0))/\w'=w:=by
 have N:∀(z:Int)(w:World),Calls Tryz.prog 215 #[.int .i64 z] w fun e w'=>e=.returned (.bool false)/\w'=w:=fun z w=>by
  go_enter Tryz.func215,Tryz.ntmps215
  go_wp2
  go_ret
  exact⟨by simp,rfl⟩
 go_enter Tryz.func193,Tryz.ntmps193
 go_wp2_with (go_at_call 215;refine(N _ _).mono ?_;rintro e w' ⟨rfl,rfl⟩)
 all_goals(go_ret;refine⟨?_,rfl⟩)
 ·simp[*]
 ·have:¬x<y:=by omega
  simp[*]
 ·have h1:¬x<y:=by omega
  have h2:¬y<x:=by omega
  simp[*]
set_option maxHeartbeats 4000000 in
theorem N1(xs ys:fP)(A B:Option Addr)(ca cb:Nat)(w:World)(hx:Vx w A xs)(hy:Vx w B ys)(h1:xs.length<2^62)(h2:ys.length<2^62):
 Calls Tryz.prog 154 #[.slice A xs.length ca,.slice B ys.length cb] w fun e w'=>e=.returned (.int .i64 (qm xs ys))/\w'=w:=by
 go_enter Tryz.func154,Tryz.ntmps154
 go_wp2
 go_loopw [11] (fun i wr=>∃q:Nat,i=.int .i64 q/\q<=xs.length/\q<=ys.length/\wr=w/\qm xs ys=qm (xs.drop q) (ys.drop q)) (fun i _=>(xs.length-intOf i).toNat)
 case atStart=>exact⟨0,rfl,gB,gB,rfl,by simp⟩
 case round=>
  obtain⟨q,rfl,hq,hq2,rfl,hl⟩:=hrel;by_cases ha:q<xs.length
  ·obtain⟨ad,rfl,cx⟩:=hx q _ (aB ha);by_cases hb:q<ys.length
   ·obtain⟨bd,rfl,cy⟩:=hy q _ (aB hb);have hl':qm xs ys=if xs[q]<ys[q]then -1 else if ys[q]<xs[q]then 1 else qm (xs.drop (q+1)) (ys.drop (q+1)):=by rw[hl,aK ha,aK hb];rfl
    clear hl hx hy;generalize xs[q]=x at *;generalize ys[q]=y at *;rcases Int.lt_trichotomy x y with h|h|h
    ·have C:=fun w=>Dg x y w
     simp only[ah h]at C hl'
     go_wp2_with (go_at_call 193;refine(C _).mono ?_;rintro e w' ⟨rfl,rfl⟩)
     go_ret
     exact⟨by rw[hl'];rfl,rfl⟩
    ·subst h;have C:=fun w=>Dg x x w
     simp only[Int.lt_irrefl,aG]at C hl'
     go_wp2_with (go_at_call 193;refine(C _).mono ?_;rintro e w' ⟨rfl,rfl⟩)
     go_roundw
     case rel=>exact⟨q+1,by go_num,gB,gB,by trivial,hl'⟩
     case measure=>simp[intOf];omega
    ·have C:=fun w=>Dg x y w
     simp only[az (show ¬x<y by omega),ah h]at C hl'
     go_wp2_with (go_at_call 193;refine(C _).mono ?_;rintro e w' ⟨rfl,rfl⟩)
     go_ret
     exact⟨by rw[hl'];rfl,rfl⟩
   ·have e:qm xs ys=1:=by rw[hl,aK ha,bt (show ys.length<=q by omega)];rfl
    have:q=ys.length:=by omega
    subst this
    go_wp2
    go_ret
    exact⟨by rw[e];rfl,rfl⟩
  ·have:q=xs.length:=by omega
   subst this;rw[eN]at hl;by_cases hb:xs.length<ys.length
   ·have e:qm xs ys= -1:=by rw[hl,aK hb];rfl
    go_wp2
    go_ret
    exact⟨by rw[e];rfl,rfl⟩
   ·have e:qm xs ys=0:=by rw[hl,bt gB];rfl
    go_wp2
    go_ret
    exact⟨by rw[e];rfl,rfl⟩
set_option maxHeartbeats 2000000 in
set_option maxRecDepth 100000 in
theorem EF(xs ys:fP)(A B:Option Addr)(ca cb:Nat)(w:World)(hx:Vx w A xs)(hy:Vx w B ys)(h1:xs.length<2^62)(h2:ys.length<2^62):
 Calls Tryz.prog 98 #[.slice A xs.length ca,.slice B ys.length cb] w fun e w'=>e=.returned (.int .i64 (lR xs ys))/\w'=w:=by
 have L:=N1 xs ys A B ca cb w hx hy h1 h2;clear hx hy;have C:lR xs ys=if xs.length=ys.length then qm xs ys else(xs.length:Int)-ys.length:=rfl
 generalize lR xs ys=c at C⊢;generalize qm xs ys=l at C L;generalize xs.length=n at *;generalize ys.length=m at *;clear xs ys;by_cases h:n=m
 ·subst h;rw[ah rfl]at C;subst C
  go_enter Tryz.func98,Tryz.ntmps98
  go_wp2_with (go_at_call 154;refine L.mono ?_;rintro e w' ⟨rfl,rfl⟩)
  go_ret
  exact⟨rfl,rfl⟩
 ·rw[az h]at C;subst C;clear L
  go_enter Tryz.func98,Tryz.ntmps98
  go_wp2
  go_ret
  exact⟨rfl,rfl⟩
theorem EU:∀a:fP,qm a a=0
 |[]=>rfl
 |x::xs=>by simp[qm,EU xs]
theorem Hh:∀a b:fP,qm b a= - qm a b
 |[],[]=>rfl
 |[],_::_=>rfl
 |_::_,[]=>rfl
 |x::xs,y::ys=>by
  simp only[qm];have:=Hh xs ys
  repeat' split
  all_goals first|rfl|omega
theorem EV:∀{a b:fP},qm a b=0->a=b
 |[],[],_=>rfl
 |[],_::_,h=>by simp[qm]at h
 |_::_,[],h=>by simp[qm]at h
 |x::xs,y::ys,h=>by
  simp only[qm]at h;split at h
  ·omega
  ·split at h
   ·omega
   ·rw[EV h,show x=y by omega]
theorem DI:∀{a b c:fP},qm a b<=0->qm b c<=0->qm a c<=0/\(qm a b<0\/qm b c<0->qm a c<0)
 |[],[],c,h1,h2=>⟨h2,fun h=>h.elim (fun h=>by simp[qm]at h) id⟩
 |[],_::_,[],h1,h2=>by simp[qm]at h2
 |[],_::_,_::_,h1,h2=>by simp[qm]
 |_::_,[],_,h1,h2=>by simp[qm]at h1
 |_::_,_::_,[],h1,h2=>by simp[qm]at h2
 |x::xs,y::ys,z::zs,h1,h2=>by
  have ih:=fun h1 h2=>DI (a:=xs) (b:=ys) (c:=zs) h1 h2
  simp only[qm]at h1 h2⊢;by_cases h3:x<y
  ·by_cases h4:y<z
   ·rw[ah (show x<z by omega)];omega
   ·rw[az h4]at h2;by_cases h5:z<y
    ·rw[ah h5]at h2;omega
    ·rw[ah (show x<z by omega)];omega
  ·rw[az h3]at h1⊢;by_cases h5:y<x
   ·rw[ah h5]at h1;omega
   ·rw[az h5]at h1⊢;obtain rfl:x=y:=by omega
    by_cases h4:x<z
    ·rw[ah h4];omega
    ·by_cases h6:z<x
     ·rw[az h4,ah h6]at h2;omega
     ·simp only[az h6,az h4]at h2⊢;exact ih h1 h2
theorem BK(a:fP):lR a a=0:=by unfold lR;rw[ah rfl,EU]
theorem uW(a b:fP):lR b a= - lR a b:=by
 unfold lR;by_cases h:a.length=b.length
 ·rw[ah h,ah h.symm,Hh]
 ·rw[az h,az (fun e=>h e.symm)];omega
theorem vO{a b:fP}(h:lR a b=0):a=b:=by
 unfold lR at h;split at h
 ·exact EV h
 ·omega
theorem vX{a b c:fP}(h1:lR a b<=0)(h2:lR b c<=0):lR a c<=0/\(lR a b<0\/lR b c<0->lR a c<0):=by
 unfold lR at *;by_cases h:a.length=b.length
 ·rw[ah h]at h1⊢;by_cases h':b.length=c.length
  ·rw[ah h']at h2⊢;rw[ah (h.trans h')];exact DI h1 h2
  ·rw[az h']at h2⊢;rw[az gB];omega
 ·rw[az h]at h1⊢;by_cases h':b.length=c.length
  ·rw[ah h']at h2⊢;rw[az gB];omega
  ·rw[az h']at h2⊢;rw[az gB];omega
def jK(xs:List fP):List fP:=xs.mergeSort fun a b=>decide (lR a b<=0)
theorem iO(xs:List fP):(jK xs).Perm xs:=List.mergeSort_perm _ _
theorem pF{xs:List fP}:(jK xs).length=xs.length:=(iO xs).length_eq
theorem jw(xs:List fP):(jK xs).Pairwise fun a b=>lR a b<=0:=by
 refine(List.pairwise_mergeSort (le:=fun a b=>decide (lR a b<=0)) (fun a b c h1 h2=>?_) (fun a b=>?_) xs).imp (fun h=>ct h)
 ·exact decide_eq_true (vX (ct h1) (ct h2)).1
 ·have:=uW a b;simp only[eR,ak];omega
theorem nL{l l':List fP}(hp:l.Perm l')(h:l.Pairwise fun a b=>lR a b<=0)(h':l'.Pairwise fun a b=>lR a b<=0):l=l':=by
 refine List.Perm.eq_of_pairwise (fun a b _ _ h1 h2=>?_) h h' hp;have:=uW a b;exact vO gB
end Go.Proofs.YthdnkoejpdcnpaaGreat
namespace Go.Proofs.YthdnkoejpdcnpaaGreat
open Go Go.RowKit Go.Proofs Go.Shelf Go.Lib Go.Sort
structure El(w:World)(blk:Nat) where
 v:Value
 xs:fP
 ok:∃A cap,v=.slice A xs.length cap/\xs.length<2^62/\∀j x,xs[j]?=some x->∃ad:Addr,A=some ad/\ad.block≠blk/\ad.block<w.heap.size/\w.cell? (ad.add j)=some (.int .i64 x)
instance{w:World}{blk:Nat}:Inhabited (El w blk):=⟨⟨.slice none 0 0,[],none,0,rfl,by decide,fun j x h=>by simp at h⟩⟩
theorem AM(a:Addr)(n:Nat):(a.add n).block=a.block:=by unfold Addr.add;split<;>rfl
theorem R_{w:World}{blk:Nat}(x:El w blk)(n m:Nat)(d:Array (El w blk))(os:Array Obj):∃A cap,x.v=.slice A x.xs.length cap/\x.xs.length<2^62/\Vx (sortWorld El.v w blk 0 m d os) A x.xs:=by
 obtain⟨A,cap,h1,h2,h3⟩:=x.ok;refine⟨A,cap,h1,h2,fun j y hj=>?_⟩;obtain⟨ad,h4,h5,h6,h7⟩:=h3 j y hj;refine⟨ad,h4,?_⟩;unfold sortWorld;rw[cell?_grow _ _ _ (by rw[size_putRow,AM];exact h6),cell?_putRow_other _ _ _ _ _ _ (.inl (by rw[AM];exact h5))];exact h7
theorem RF{w:World}{blk:Nat}:SWO (ltOf fun x y:El w blk=>lR x.xs y.xs) where
 irrefl x:=by simp[ltOf,BK]
 trans x y z h1 h2:=by
  simp only[ltOf,ak]at *;exact(vX gB gB).2 (.inl h1)
 ntrans x y z h1 h2:=by
  simp only[ltOf,bS]at *;have g1:=uW x.xs y.xs;have g2:=uW y.xs z.xs;have g3:=uW x.xs z.xs;have:=(vX (a:=z.xs) (b:=y.xs) (c:=x.xs) gB gB).1;omega
theorem QL{α:Type}[Inhabited α]{d:Array α}{i:Nat}(h:i<d.size):d[i]! =d[i]:=eu d i h
theorem LX{w:World}{blk cap:Nat}{d:Array (El w blk)}(hH:Holds El.v w blk 0 d)(hblk:blk<w.heap.size)(hsz:d.size<4611686018427387904):
 Calls Tryz.prog 126 #[.slice (some ⟨blk,0,none⟩) d.size cap,.func (.func 98) #[] #[]] w fun e w'=>e=.returned (.tuple #[])/\
  ∃(d':Array (El w blk))(n:Nat)(os:Array Obj),w'=sortWorld El.v w blk 0 n d' os/\d'.size=d.size/\d'.toList.Perm d.toList/\d'.toList.map El.xs=jK (d.toList.map El.xs):=by
 have eg:∀args w,(callFunc 98 args).run Tryz.prog w=.ok (.enter 98 args) w:=enters_of Tryz.func98 (by kernel_rfl) rfl;refine(Tryz.zo El.v (fun x=>by obtain⟨A,cap,h,_⟩:=x.ok;rw[h];rfl) (fun x y=>lR x.xs y.xs) RF 98 #[] blk 0 cap d w eg (fun m os dk hs x y=>?_) hH hblk hsz).mono ?_
 ·obtain⟨A,ca,h1,h2,h3⟩:=R_ x 0 m dk os;obtain⟨B,cb,k1,k2,k3⟩:=R_ y 0 m dk os;rw[h1,k1];refine(EF x.xs y.xs A B ca cb _ h3 k3 h2 k2).mono ?_;rintro e w' ⟨rfl,rfl⟩;exact⟨rfl,0,#[],by rw[grow_empty];rfl⟩
 ·rintro e w' ⟨rfl,d',n,os,hp,hs,rfl⟩;obtain⟨p1,p2,p3⟩:=hp;have p5:d'.toList.Perm d.toList:=by
   have e1:d'.extract 0 d.size=d':=by rw[<-p1];simp
   have e2:d.extract 0 d.size=d:=by simp
   rw[e1,e2]at p3;exact p3
  refine⟨rfl,d',n,os,rfl,p1,p5,?_⟩;have p4:(d'.toList.map El.xs).Perm (d.toList.map El.xs):=p5.map _;refine nL (p4.trans (iO _).symm) ?_ (jw _);rw[List.pairwise_map,dc];intro i j hi hj hij;have hj':j<d'.size:=by simpa using hj
  have hi':i<d'.size:=by omega
  have:=hs i j (dS _) hij gB;rw[QL hj',QL hi']at this;simp only[ltOf,bS]at this;have g:=uW d'[i].xs d'[j].xs;show lR d'.toList[i].xs d'.toList[j].xs<=0;simp only[Array.getElem_toList];omega
end Go.Proofs.YthdnkoejpdcnpaaGreat
namespace Go.Proofs.YthdnkoejpdcnpaaGreat
open Go kI Go.RowKit Go.Sort Go.Shelf
attribute [go_sem, simp] pF
def xR(xs:List fP):Option Unit:=if xs.length<4611686018427387904/\∀x∈xs,x.length<4611686018427387904 then some ()else none
theorem ER:∀(xs:List fP),(h_ (gE 1 iD) xs).length=xs.length
 |[]=>rfl
 |x::xs=>by rw[ou,aj,ER xs];simp[gE,gJ];omega
theorem GI{O:kI.Own}{w:World}{b:Nat}(hO:∀o,O b o):∀{xs:List fP}{vs:List Value},(∀x∈xs,x.length<4611686018427387904)->D.hM O w (h_ (gE 1 iD) xs) vs->
 ∃d:List (El w b),d.map El.v=vs/\d.map El.xs=xs/\∀x∈d,D.ok O w (gE 1 iD x.xs) x.v
 |[],vs,_,h=>by simp only[xE,D.hM]at h;exact⟨[],by simp[h],rfl,fun x hx=>by cases hx⟩
 |x::xs,vs,hl,h=>by
  rw[ou]at h;simp only[gE,gJ,cm,D.hM]at h;obtain⟨v,r,rfl,_,h1,h2⟩:=h;obtain⟨d,h3,h4,h9⟩:=GI hO (fun y hy=>hl y (by simp[hy])) h2;have h1':D.ok O w (gE 1 iD x) v:=h1;have h10:=h1';simp only[gE,D.ok,aM]at h1';obtain⟨A,cap,rfl,_,_,hr⟩:=h1';refine⟨⟨.slice A x.length cap,x,A,cap,rfl,hl x (by simp),fun j y hj=>?_⟩::d,by simp[h3],by simp[h4],fun y hy=>?_⟩
  rotate_left
  ·rcases bu.1 hy with rfl|hy
   ·exact h10
   ·exact h9 y hy
  rcases hr with hr|⟨b',o,rfl,hr⟩
  ·simp at hr;subst hr;simp at hj
  ·obtain⟨us,k1,k2,k3⟩:=Bl hr (i:=j) (x:=iD y) (by simp[hj]);simp only[D.Fj,D.ok]at k3;obtain⟨u,rfl,rfl,_⟩:=k3;have k4:=k2 0 _ rfl;simp only[eX,de]at k4;refine⟨⟨b',o,none⟩,rfl,fun e=>k4.2.1 (by rw[show b'=b from e];exact hO _),tT k4.1,?_⟩;unfold Addr.add;split
   ·rename_i hz;subst hz;simpa using k4.1
   ·exact k4.1
theorem J7{O:kI.Own}{w:World}{b:Nat}{O':kI.Own}{w':World}:∀(d:List (El w b)),(∀x∈d,D.ok O' w' (gE 1 iD x.xs) x.v)->D.hM O' w' (h_ (gE 1 iD) (d.map El.xs)) (d.map El.v)
 |[],_=>by simp[xE,D.hM]
 |x::d,h=>by
  simp only[aX,ou,gE,gJ,cm,D.hM];refine⟨_,_,rfl,?_,h x (by simp),J7 (O:=O) d fun y hy=>h y (by simp[hy])⟩;obtain⟨A,cap,e,_⟩:=x.ok;rw[e];rfl
set_option maxHeartbeats 1000000 in
instance YH{xs:List fP}:gW (xR xs) fun _=>gN Tryz.prog 126 [.kG 1 0 xs.length,.fn 98 [] []] [(0,.iM 22 1 xs.length (h_ (gE 1 iD) xs))] 1 fun xx ss=>xx=.nk []/\ss=[(0,.iM 22 1 xs.length (h_ (gE 1 iD) (jK xs)))]:=⟨fun{rr} h=>by
 unfold xR at h;split at h
 ·rename_i hl;intro C vs hs hk hinv hargs;have hst:St C C.β [] C.s {tmps:=#[],defers:=[]} C.w:=⟨.nil,hinv,rfl,fun i x hx=>by simp at hx⟩;have ho:=hinv.obs 0;rw[show sat C.s 0=.iM 22 1 xs.length (h_ (gE 1 iD) xs) by rw[hs];rfl]at ho;obtain⟨u,hβ,hlen,hg⟩:=ho;have hdead:∀id,id≠0->C.β id=.no:=fun id hid=>by
   have:=hinv.obs id;rw[hs,show sat [(0,Ob.iM 22 1 xs.length (h_ (gE 1 iD) xs))] id=.dead by simp[sat,hid]]at this;exact this
  simp only[AV.hM,AV.ok]at hargs;obtain⟨v,r,hv,⟨u',m,g1,g2,g3,_⟩,v2,r2,rfl,⟨fs,cs,rfl,h5,h6⟩,rfl⟩:=hargs;rw[hβ]at g1;obtain⟨rfl,rfl⟩:u'=u/\m=xs.length:=by simpa[Place.at,eq_comm]using g1
  have hvu:=g3 rfl;subst hvu;have e1:fs=#[]:=cC h5;have e2:cs=#[]:=cC h6;subst e1 e2;have e3:vs=#[v,.func (.func 98) #[] #[]]:=cC hv;subst e3;rcases hg with⟨rfl,h0⟩|⟨b,cap,us,rfl,hb,hus,hncap,hcap,hone,pre,rest,hpre,hoks⟩
  ·have hx:xs=[]:=bZ h0;subst hx;refine(Tryz.wE (α:=Nat) none 0 _ C.w).mono ?_;rintro e w' ⟨rfl,rfl⟩;refine⟨.tuple #[],.nk [],C.β,C.s,rfl,hinv,?_,rfl,by rw[hs];simp[jK]⟩;simp only[AV.ok,AV.hM];exact⟨#[],rfl,rfl⟩
  ·have hO:∀o,C.gP C.β C.s b o:=fun o=>.inr ⟨0,by rw[hs];exact⟨cap,hβ⟩⟩
   obtain⟨d,hd1,hd2,hd3⟩:=GI hO hl.2 hoks;have hdl:d.length=xs.length:=by rw[<-hd2,aM]
   have hbs:b<C.w.heap.size:=(bA.1 hb).1;have hpl:pre.length=d.length:=by rw[<-hd1,aM]
   have hH:Holds El.v C.w b 0 d.toArray:=fun j hj=>by
    have hj':j<d.length:=by simpa using hj
    have g:us[j]?=some d[j].v:=by
     have:us.toList[j]?=some d[j].v:=by rw[hpre,aU gB,<-hd1];simp[hj']
     simpa using this
    refine⟨?_,by simp[World.frozen?,hb]⟩;rw[eu _ j hj];simp only[World.cell?,hb,bk];simpa using g
   have W:=LX (cap:=cap) hH hbs (by simp;omega);rw[show d.toArray.size=xs.length by simp[hdl]]at W;refine W.mono ?_;rintro e w' ⟨rfl,d',n,os,rfl,hs',hperm,hsorted⟩;have hs2:d'.size=d.length:=by rw[hdl];exact hs'
   have hp2:d'.toList.Perm d:=by simpa using hperm
   have hs3:d'.toList.map El.xs=jK xs:=by rw[hsorted];simp[hd2]
   have H2:∀k,k≠b->k<C.w.heap.size->(sortWorld El.v C.w b 0 n d' os).heap[k]?=C.w.heap[k]?:=fun k hk hlt=>by
    simp only[sortWorld,grow,putRow,mapBlock,Go.Sort.ahead];rw[dL (by simpa using hlt),dZ,az (fun e=>hk e.symm)]
   have H3:(sortWorld El.v C.w b 0 n d' os).heap[b]?=some (.cells (putCells El.v 0 d' us) 22 (0,0)):=by
    simp only[sortWorld,grow,putRow,mapBlock,Go.Sort.ahead];rw[dL (by simpa using hbs),dZ,ah rfl,hb];rfl
   have H4:(putCells El.v 0 d' us).toList=d'.toList.map El.v++rest:=by
    apply dJ;intro k;simp only[putCells,Array.toList_mapIdx,List.getElem?_mapIdx,dS,eV,bk,Nat.sub_zero,hpre];by_cases hk:k<d'.size
    ·rw[aU (by rw[hpl];omega),aU (by simpa using hk)];rw[aB (show k<pre.length by omega)];simp[hk]
    ·rw[bK (by rw[hpl];omega),bK (by simpa using hk)];have:k-pre.length=k-(d'.toList.map El.v).length:=by simp;omega
     rw[this];cases hq:rest[k-(d'.toList.map El.v).length]? with
     |none=>rfl
     |some z=>simp[hk]
   have same:∀b' o,own C.β [(0,Ob.iM 22 1 xs.length (h_ (gE 1 iD) (jK xs)))] b' o<->own C.β C.s b' o:=fun b' o=>by
    rw[hs];constructor
    ·rintro⟨id,h⟩;by_cases hid:id=0
     ·subst hid;exact⟨0,h⟩
     ·rw[show sat [(0,Ob.iM 22 1 xs.length (h_ (gE 1 iD) (jK xs)))] id=.dead by simp[sat,hid]]at h;exact h.elim
    ·rintro⟨id,h⟩;by_cases hid:id=0
     ·subst hid;exact⟨0,h⟩
     ·rw[show sat [(0,Ob.iM 22 1 xs.length (h_ (gE 1 iD) xs))] id=.dead by simp[sat,hid]]at h;exact h.elim
   have sameB:∀id b',gF C.β [(0,Ob.iM 22 1 xs.length (h_ (gE 1 iD) (jK xs)))] id b'<->gF C.β C.s id b':=fun id b'=>by
    rw[hs];by_cases hid:id=0
    ·subst hid;exact cM
    ·unfold gF;rw[show sat [(0,Ob.iM 22 1 xs.length (h_ (gE 1 iD) (jK xs)))] id=.dead by simp[sat,hid],show sat [(0,Ob.iM 22 1 xs.length (h_ (gE 1 iD) xs))] id=.dead by simp[sat,hid]]
   have m:mT C.β C.s C.w C.β [(0,Ob.iM 22 1 xs.length (h_ (gE 1 iD) (jK xs)))] (sortWorld El.v C.w b 0 n d' os):={
    size:=by simp only[sortWorld,grow,putRow,mapBlock,Go.Sort.ahead];simp
    io:=rfl
    keep:=fun b' o v hc hn=>by
     have hne:b'≠b:=fun e=>hn (by subst e;exact⟨0,by rw[hs];exact⟨cap,hβ⟩⟩)
     have:=H2 b' hne (tT hc);simp only[World.cell?]at hc⊢;rw[this];exact hc
    uy:=fun b' hlt hn=>H2 b' (fun e=>hn 0 (by subst e;rw[hs];exact⟨cap,hβ⟩)) hlt
    rH:=fun b' o h=>.inl ((same b' o).1 h)
    vt:=fun id b' h=>.inl ⟨id,(sameB id b').1 h⟩
    pl:=fun id=>.refl _}
   have hst':=hst.move m (fun id=>by
    by_cases hid:id=0
    ·subst hid;show vG C.β _ _ 0 (.iM 22 1 xs.length (h_ (gE 1 iD) (jK xs)));refine⟨_,hβ,by rw[ER,pF];omega,.inr ⟨b,cap,_,rfl,H3,by simp[putCells,hus],hncap,hcap,?_,_,rest,H4,?_⟩⟩
     ·intro z hz;rw[H4,aI]at hz;rcases hz with hz|hz
      ·obtain⟨y,_,rfl⟩:=a_.1 hz;obtain⟨A,ca,e,_⟩:=y.ok;rw[e];rfl
      ·exact hone z (by rw[hpre];simp[hz])
     ·have g:D.hM (C.gP C.β [(0,Ob.iM 22 1 xs.length (h_ (gE 1 iD) (jK xs)))]) (sortWorld El.v C.w b 0 n d' os) (h_ (gE 1 iD) (d'.toList.map El.xs)) (d'.toList.map El.v):=?_
      ·rw[hs3]at g;exact g
      refine J7 (O:=C.O) d'.toList fun y hy=>?_
      have:=m.ok (C:=C) (x:=.d (gE 1 iD y.xs)) (v:=y.v) (by simp only[AV.ok];exact hd3 y (hp2.mem_iff.1 hy));simp only[AV.ok]at this;exact this
    ·rw[show sat [(0,Ob.iM 22 1 xs.length (h_ (gE 1 iD) (jK xs)))] id=.dead by simp[sat,hid]];exact hdead id hid) (fun i j b' hi hj=>hinv.inj i j b' ((sameB i b').1 hi) ((sameB j b').1 hj))
   refine⟨.tuple #[],.nk [],C.β,_,rfl,hst'.inv,?_,rfl,rfl⟩;simp only[AV.ok,AV.hM];exact⟨#[],rfl,rfl⟩
 ·cases h⟩
end Go.Proofs.YthdnkoejpdcnpaaGreat
namespace Go.Proofs.YthdnkoejpdcnpaaGreat
open Go Go.RowKit Go.Proofs
def mN:List fP->List fP->Int
 |[],[]=>0
 |[],_::_=> -1
 |_::_,[]=>1
 |x::xs,y::ys=>if lR x y=0 then mN xs ys else lR x y
theorem BI:∀a:List fP,mN a a=0
 |[]=>rfl
 |x::xs=>by simp[mN,BK,BI xs]
theorem uV:∀a b:List fP,mN b a= - mN a b
 |[],[]=>rfl
 |[],_::_=>rfl
 |_::_,[]=>rfl
 |x::xs,y::ys=>by
  simp only[mN];have h1:=uV xs ys;have h2:=uW x y;by_cases h:lR x y=0
  ·rw[ah h,ah gB];exact h1
  ·rw[az h,az gB];exact h2
theorem BJ:∀{a b:List fP},mN a b=0->a=b
 |[],[],_=>rfl
 |[],_::_,h=>by simp[mN]at h
 |_::_,[],h=>by simp[mN]at h
 |x::xs,y::ys,h=>by
  simp only[mN]at h;by_cases h1:lR x y=0
  ·rw[ah h1]at h;rw[BJ h,vO h1]
  ·rw[az h1]at h;exact absurd h h1
theorem uz:∀{a b c:List fP},mN a b<=0->mN b c<=0->mN a c<=0/\(mN a b<0\/mN b c<0->mN a c<0)
 |[],[],c,h1,h2=>⟨h2,fun h=>h.elim (fun h=>by simp[mN]at h) id⟩
 |[],_::_,[],h1,h2=>by simp[mN]at h2
 |[],_::_,_::_,h1,h2=>by simp[mN]
 |_::_,[],_,h1,h2=>by simp[mN]at h1
 |_::_,_::_,[],h1,h2=>by simp[mN]at h2
 |x::xs,y::ys,z::zs,h1,h2=>by
  have ih:=fun h1 h2=>uz (a:=xs) (b:=ys) (c:=zs) h1 h2
  simp only[mN]at h1 h2⊢;by_cases h3:lR x y=0
  ·obtain rfl:=vO h3;rw[ah h3]at h1⊢;by_cases h4:lR x z=0
   ·simp only[ah h4]at h2⊢;exact ih h1 h2
   ·simp only[az h4]at h2⊢;omega
  ·rw[az h3]at h1⊢;by_cases h4:lR y z=0
   ·obtain rfl:=vO h4;simp only[az h3];omega
   ·rw[az h4]at h2⊢;have:=vX (a:=x) (b:=y) (c:=z) h1 h2;have h5:=this.2 (.inl gB);rw[az gB];omega
def ua(xs:List fQ):List fQ:=xs.mergeSort fun a b=>decide (mN a b<=0)
theorem Av(xs:List fQ):(ua xs).Perm xs:=List.mergeSort_perm _ _
theorem zT{xs:List fQ}:(ua xs).length=xs.length:=(Av xs).length_eq
theorem Bo(xs:List fQ):(ua xs).Pairwise fun a b=>mN a b<=0:=by
 refine(List.pairwise_mergeSort (le:=fun a b=>decide (mN a b<=0)) (fun a b c h1 h2=>?_) (fun a b=>?_) xs).imp (fun h=>ct h)
 ·exact decide_eq_true (uz (ct h1) (ct h2)).1
 ·have:=uV a b;simp only[eR,ak];omega
theorem DZ{l l':List fQ}(hp:l.Perm l')(h:l.Pairwise fun a b=>mN a b<=0)(h':l'.Pairwise fun a b=>mN a b<=0):l=l':=by
 refine List.Perm.eq_of_pairwise (fun a b _ _ h1 h2=>?_) h h' hp;have:=uV a b;exact BJ gB
end Go.Proofs.YthdnkoejpdcnpaaGreat
namespace Go.Proofs.YthdnkoejpdcnpaaGreat
open Go Go.RowKit Go.Proofs Go.Shelf Go.Lib Go.Sort
def VO(w:World)(A:Option Addr)(xs:List fP):Prop:=∀j x,xs[j]?=some x->∃ad B cb,A=some ad/\w.cell? (ad.add j)=some (.slice B x.length cb)/\x.length<2^62/\Vx w B x
set_option maxHeartbeats 4000000 in
theorem Nq(xs ys:List fP)(A B:Option Addr)(ca cb:Nat)(w:World)(hx:VO w A xs)(hy:VO w B ys)(h1:xs.length<2^62)(h2:ys.length<2^62):
 Calls Tryz.prog 97 #[.slice A xs.length ca,.slice B ys.length cb,.func (.func 98) #[] #[]] w fun e w'=>e=.returned (.int .i64 (mN xs ys))/\w'=w:=by
 have eg:∀args w,(callFunc 98 args).run Tryz.prog w=.ok (.enter 98 args) w:=enters_of Tryz.func98 (by kernel_rfl) rfl
 go_enter Tryz.func97,Tryz.ntmps97
 go_wp2
 go_loopw [13] (fun i wr=>∃q:Nat,i=.int .i64 q/\q<=xs.length/\q<=ys.length/\wr=w/\mN xs ys=mN (xs.drop q) (ys.drop q)) (fun i _=>(xs.length-intOf i).toNat)
 case atStart=>exact⟨0,rfl,gB,gB,rfl,by simp⟩
 case round=>
  obtain⟨q,rfl,hq,hq2,rfl,hl⟩:=hrel;by_cases ha:q<xs.length
  ·obtain⟨ad,B1,c1,rfl,cx,lx,rx⟩:=hx q _ (aB ha);by_cases hb:q<ys.length
   ·obtain⟨bd,B2,c2,rfl,cy,ly,ry⟩:=hy q _ (aB hb);have hl':mN xs ys=if lR xs[q] ys[q]=0 then mN (xs.drop (q+1)) (ys.drop (q+1))else lR xs[q] ys[q]:=by rw[hl,aK ha,aK hb];rfl
    have C:=EF xs[q] ys[q] B1 B2 c1 c2 _ rx ry lx ly;clear hl hx hy rx ry;generalize xs[q]=x at *;generalize ys[q]=y at *;by_cases h:lR x y=0
    ·simp only[ah h]at hl';rw[h]at C
     go_wp2_with (go_at_call 98;refine C.mono ?_;rintro e w' ⟨rfl,rfl⟩)
     go_roundw
     case rel=>exact⟨q+1,by go_num,gB,gB,by trivial,hl'⟩
     case measure=>simp[intOf];omega
    ·simp only[az h]at hl'
     go_wp2_with (go_at_call 98;refine C.mono ?_;rintro e w' ⟨rfl,rfl⟩)
     go_ret
     exact⟨by rw[hl'];rfl,rfl⟩
   ·have e:mN xs ys=1:=by rw[hl,aK ha,bt (show ys.length<=q by omega)];rfl
    have:q=ys.length:=by omega
    subst this
    go_wp2
    go_ret
    exact⟨by rw[e];rfl,rfl⟩
  ·have:q=xs.length:=by omega
   subst this;rw[eN]at hl;by_cases hb:xs.length<ys.length
   ·have e:mN xs ys= -1:=by rw[hl,aK hb];rfl
    go_wp2
    go_ret
    exact⟨by rw[e];rfl,rfl⟩
   ·have e:mN xs ys=0:=by rw[hl,bt gB];rfl
    go_wp2
    go_ret
    exact⟨by rw[e];rfl,rfl⟩
theorem Le(xs ys:List fP)(A B:Option Addr)(ca cb:Nat)(w:World)(hx:VO w A xs)(hy:VO w B ys)(h1:xs.length<2^62)(h2:ys.length<2^62):
 Calls Tryz.prog 96 #[.slice A xs.length ca,.slice B ys.length cb] w fun e w'=>e=.returned (.int .i64 (mN xs ys))/\w'=w:=by
 have L:=Nq xs ys A B ca cb w hx hy h1 h2;clear hx hy;generalize mN xs ys=c at L⊢;generalize xs.length=n at *;generalize ys.length=m at *;clear xs ys
 go_enter Tryz.func96,Tryz.ntmps96
 go_wp2_with (go_at_call 97;refine L.mono ?_;rintro e w' ⟨rfl,rfl⟩)
 go_ret
 exact⟨rfl,rfl⟩
structure Es(w:World)(blk:Nat) where
 v:Value
 xs:List fP
 ok:∃A cap,v=.slice A xs.length cap/\xs.length<2^62/\∀j x,xs[j]?=some x->∃(ad:Addr)(B:Option Addr)(cb:Nat),A=some ad/\ad.block≠blk/\ad.block<w.heap.size/\w.cell? (ad.add j)=some (.slice B x.length cb)/\x.length<2^62/\
  ∀k y,x[k]?=some y->∃bd:Addr,B=some bd/\bd.block≠blk/\bd.block<w.heap.size/\w.cell? (bd.add k)=some (.int .i64 y)
instance{w:World}{blk:Nat}:Inhabited (Es w blk):=⟨⟨.slice none 0 0,[],none,0,rfl,by decide,fun j x h=>by simp at h⟩⟩
theorem Sa{w:World}{blk:Nat}(x:Es w blk)(n m:Nat)(d:Array (Es w blk))(os:Array Obj):∃A cap,x.v=.slice A x.xs.length cap/\x.xs.length<2^62/\VO (sortWorld Es.v w blk 0 m d os) A x.xs:=by
 obtain⟨A,cap,h1,h2,h3⟩:=x.ok;have K:∀(ad:Addr)(j:Nat),ad.block≠blk->ad.block<w.heap.size->(sortWorld Es.v w blk 0 m d os).cell? (ad.add j)=w.cell? (ad.add j):=fun ad j h5 h6=>by
  unfold sortWorld;rw[cell?_grow _ _ _ (by rw[size_putRow,AM];exact h6),cell?_putRow_other _ _ _ _ _ _ (.inl (by rw[AM];exact h5))];rfl
 refine⟨A,cap,h1,h2,fun j y hj=>?_⟩;obtain⟨ad,B,cb,h4,h5,h6,h7,h8,h9⟩:=h3 j y hj;refine⟨ad,B,cb,h4,(K ad j h5 h6).trans h7,h8,fun k z hk=>?_⟩;obtain⟨bd,g4,g5,g6,g7⟩:=h9 k z hk;exact⟨bd,g4,(K bd k g5 g6).trans g7⟩
theorem O_{w:World}{blk:Nat}:SWO (ltOf fun x y:Es w blk=>mN x.xs y.xs) where
 irrefl x:=by simp[ltOf,BI]
 trans x y z h1 h2:=by
  simp only[ltOf,ak]at *;exact(uz gB gB).2 (.inl h1)
 ntrans x y z h1 h2:=by
  simp only[ltOf,bS]at *;have g1:=uV x.xs y.xs;have g2:=uV y.xs z.xs;have g3:=uV x.xs z.xs;have:=(uz (a:=z.xs) (b:=y.xs) (c:=x.xs) gB gB).1;omega
theorem Jr{w:World}{blk cap:Nat}{d:Array (Es w blk)}(hH:Holds Es.v w blk 0 d)(hblk:blk<w.heap.size)(hsz:d.size<4611686018427387904):
 Calls Tryz.prog 95 #[.slice (some ⟨blk,0,none⟩) d.size cap,.func (.func 96) #[] #[]] w fun e w'=>e=.returned (.tuple #[])/\
  ∃(d':Array (Es w blk))(n:Nat)(os:Array Obj),w'=sortWorld Es.v w blk 0 n d' os/\d'.size=d.size/\d'.toList.Perm d.toList/\d'.toList.map Es.xs=ua (d.toList.map Es.xs):=by
 have eg:∀args w,(callFunc 96 args).run Tryz.prog w=.ok (.enter 96 args) w:=enters_of Tryz.func96 (by kernel_rfl) rfl;refine(Tryz.Aa Es.v (fun x=>by obtain⟨A,cap,h,_⟩:=x.ok;rw[h];rfl) (fun x y=>mN x.xs y.xs) O_ 96 #[] blk 0 cap d w eg (fun m os dk hs x y=>?_) hH hblk hsz).mono ?_
 ·obtain⟨A,ca,h1,h2,h3⟩:=Sa x 0 m dk os;obtain⟨B,cb,k1,k2,k3⟩:=Sa y 0 m dk os;rw[h1,k1];refine(Le x.xs y.xs A B ca cb _ h3 k3 h2 k2).mono ?_;rintro e w' ⟨rfl,rfl⟩;exact⟨rfl,0,#[],by rw[grow_empty];rfl⟩
 ·rintro e w' ⟨rfl,d',n,os,hp,hs,rfl⟩;obtain⟨p1,p2,p3⟩:=hp;have p5:d'.toList.Perm d.toList:=by
   have e1:d'.extract 0 d.size=d':=by rw[<-p1];simp
   have e2:d.extract 0 d.size=d:=by simp
   rw[e1,e2]at p3;exact p3
  refine⟨rfl,d',n,os,rfl,p1,p5,?_⟩;have p4:(d'.toList.map Es.xs).Perm (d.toList.map Es.xs):=p5.map _;refine DZ (p4.trans (Av _).symm) ?_ (Bo _);rw[List.pairwise_map,dc];intro i j hi hj hij;have hj':j<d'.size:=by simpa using hj
  have hi':i<d'.size:=by omega
  have:=hs i j (dS _) hij gB;rw[QL hj',QL hi']at this;simp only[ltOf,bS]at this;have g:=uV d'[i].xs d'[j].xs;show mN d'.toList[i].xs d'.toList[j].xs<=0;simp only[Array.getElem_toList];omega
end Go.Proofs.YthdnkoejpdcnpaaGreat
namespace Go.Proofs.YthdnkoejpdcnpaaGreat
open Go kI Go.RowKit Go.Sort Go.Shelf
attribute [go_sem, simp] zT
def zy(xs:List fQ):Option Unit:=if xs.length<4611686018427387904/\∀x∈xs,x.length<4611686018427387904/\∀y∈x,y.length<4611686018427387904 then some ()else none
theorem ES:∀(xs:List fQ),(h_ (gE 1 (gE 1 iD)) xs).length=xs.length
 |[]=>rfl
 |x::xs=>by rw[ou,aj,ES xs];simp[gE,gJ];omega
theorem GJ{O:kI.Own}{w:World}{b:Nat}(hO:∀o,O b o):∀{xs:List fQ}{vs:List Value},(∀x∈xs,x.length<4611686018427387904/\∀y∈x,y.length<4611686018427387904)->D.hM O w (h_ (gE 1 (gE 1 iD)) xs) vs->
 ∃d:List (Es w b),d.map Es.v=vs/\d.map Es.xs=xs/\∀x∈d,D.ok O w (gE 1 (gE 1 iD) x.xs) x.v
 |[],vs,_,h=>by simp only[xE,D.hM]at h;exact⟨[],by simp[h],rfl,fun x hx=>by cases hx⟩
 |x::xs,vs,hl,h=>by
  rw[ou]at h;simp only[gE,gJ,cm,D.hM]at h;obtain⟨v,r,rfl,_,h1,h2⟩:=h;obtain⟨d,h3,h4,h9⟩:=GJ hO (fun y hy=>hl y (by simp[hy])) h2;have h1':D.ok O w (gE 1 (gE 1 iD) x) v:=h1;have h10:=h1';simp only[gE,D.ok,aM]at h1';obtain⟨A,cap,rfl,_,_,hr⟩:=h1';refine⟨⟨.slice A x.length cap,x,A,cap,rfl,(hl x (by simp)).1,fun j y hj=>?_⟩::d,by simp[h3],by simp[h4],fun y hy=>?_⟩
  rotate_left
  ·rcases bu.1 hy with rfl|hy
   ·exact h10
   ·exact h9 y hy
  have hym:y∈x:=bQ hj;rcases hr with hr|⟨b',o,rfl,hr⟩
  ·simp at hr;subst hr;simp at hj
  ·obtain⟨us,k1,k2,k3⟩:=Bl hr (i:=j) (x:=gE 1 iD y) (by simp[hj,gE]);simp only[gE,D.Fj,D.ok,aM]at k3;obtain⟨u,rfl,B,cb,rfl,_,_,hr2⟩:=k3;have k4:=k2 0 _ rfl;simp only[eX,de]at k4;refine⟨⟨b',o,none⟩,B,cb,rfl,fun e=>k4.2.1 (by rw[show b'=b from e];exact hO _),tT k4.1,?_,(hl x (by simp)).2 y hym,fun k z hk=>?_⟩
   ·unfold Addr.add;split
    ·rename_i hz;subst hz;simpa using k4.1
    ·exact k4.1
   ·rcases hr2 with hr2|⟨b2,o2,rfl,hr2⟩
    ·simp at hr2;subst hr2;simp at hk
    ·obtain⟨us2,q1,q2,q3⟩:=Bl hr2 (i:=k) (x:=iD z) (by simp[hk]);simp only[D.Fj,D.ok]at q3;obtain⟨u2,rfl,rfl,_⟩:=q3;have q4:=q2 0 _ rfl;simp only[eX,de]at q4;refine⟨⟨b2,o2,none⟩,rfl,fun e=>q4.2.1 (by rw[show b2=b from e];exact hO _),tT q4.1,?_⟩;unfold Addr.add;split
     ·rename_i hz;subst hz;simpa using q4.1
     ·exact q4.1
theorem J8{O:kI.Own}{w:World}{b:Nat}{O':kI.Own}{w':World}:∀(d:List (Es w b)),(∀x∈d,D.ok O' w' (gE 1 (gE 1 iD) x.xs) x.v)->D.hM O' w' (h_ (gE 1 (gE 1 iD)) (d.map Es.xs)) (d.map Es.v)
 |[],_=>by simp[xE,D.hM]
 |x::d,h=>by
  simp only[aX,ou,gE,gJ,cm,D.hM];refine⟨_,_,rfl,?_,h x (by simp),J8 (O:=O) d fun y hy=>h y (by simp[hy])⟩;obtain⟨A,cap,e,_⟩:=x.ok;rw[e];rfl
set_option maxHeartbeats 1000000 in
instance YG{xs:List fQ}:gW (zy xs) fun _=>gN Tryz.prog 95 [.kG 1 0 xs.length,.fn 96 [] []] [(0,.iM 45 1 xs.length (h_ (gE 1 (gE 1 iD)) xs))] 1 fun xx ss=>xx=.nk []/\ss=[(0,.iM 45 1 xs.length (h_ (gE 1 (gE 1 iD)) (ua xs)))]:=⟨fun{rr} h=>by
 unfold zy at h;split at h
 ·rename_i hl;intro C vs hs hk hinv hargs;have hst:St C C.β [] C.s {tmps:=#[],defers:=[]} C.w:=⟨.nil,hinv,rfl,fun i x hx=>by simp at hx⟩;have ho:=hinv.obs 0;rw[show sat C.s 0=.iM 45 1 xs.length (h_ (gE 1 (gE 1 iD)) xs) by rw[hs];rfl]at ho;obtain⟨u,hβ,hlen,hg⟩:=ho;have hdead:∀id,id≠0->C.β id=.no:=fun id hid=>by
   have:=hinv.obs id;rw[hs,show sat [(0,Ob.iM 45 1 xs.length (h_ (gE 1 (gE 1 iD)) xs))] id=.dead by simp[sat,hid]]at this;exact this
  simp only[AV.hM,AV.ok]at hargs;obtain⟨v,r,hv,⟨u',m,g1,g2,g3,_⟩,v2,r2,rfl,⟨fs,cs,rfl,h5,h6⟩,rfl⟩:=hargs;rw[hβ]at g1;obtain⟨rfl,rfl⟩:u'=u/\m=xs.length:=by simpa[Place.at,eq_comm]using g1
  have hvu:=g3 rfl;subst hvu;have e1:fs=#[]:=cC h5;have e2:cs=#[]:=cC h6;subst e1 e2;have e3:vs=#[v,.func (.func 96) #[] #[]]:=cC hv;subst e3;rcases hg with⟨rfl,h0⟩|⟨b,cap,us,rfl,hb,hus,hncap,hcap,hone,pre,rest,hpre,hoks⟩
  ·have hx:xs=[]:=bZ h0;subst hx;refine(Tryz.xk (α:=Nat) none 0 _ C.w).mono ?_;rintro e w' ⟨rfl,rfl⟩;refine⟨.tuple #[],.nk [],C.β,C.s,rfl,hinv,?_,rfl,by rw[hs];simp[ua]⟩;simp only[AV.ok,AV.hM];exact⟨#[],rfl,rfl⟩
  ·have hO:∀o,C.gP C.β C.s b o:=fun o=>.inr ⟨0,by rw[hs];exact⟨cap,hβ⟩⟩
   obtain⟨d,hd1,hd2,hd3⟩:=GJ hO hl.2 hoks;have hdl:d.length=xs.length:=by rw[<-hd2,aM]
   have hbs:b<C.w.heap.size:=(bA.1 hb).1;have hpl:pre.length=d.length:=by rw[<-hd1,aM]
   have hH:Holds Es.v C.w b 0 d.toArray:=fun j hj=>by
    have hj':j<d.length:=by simpa using hj
    have g:us[j]?=some d[j].v:=by
     have:us.toList[j]?=some d[j].v:=by rw[hpre,aU gB,<-hd1];simp[hj']
     simpa using this
    refine⟨?_,by simp[World.frozen?,hb]⟩;rw[eu _ j hj];simp only[World.cell?,hb,bk];simpa using g
   have W:=Jr (cap:=cap) hH hbs (by simp;omega);rw[show d.toArray.size=xs.length by simp[hdl]]at W;refine W.mono ?_;rintro e w' ⟨rfl,d',n,os,rfl,hs',hperm,hsorted⟩;have hs2:d'.size=d.length:=by rw[hdl];exact hs'
   have hp2:d'.toList.Perm d:=by simpa using hperm
   have hs3:d'.toList.map Es.xs=ua xs:=by rw[hsorted];simp[hd2]
   have H2:∀k,k≠b->k<C.w.heap.size->(sortWorld Es.v C.w b 0 n d' os).heap[k]?=C.w.heap[k]?:=fun k hk hlt=>by
    simp only[sortWorld,grow,putRow,mapBlock,Go.Sort.ahead];rw[dL (by simpa using hlt),dZ,az (fun e=>hk e.symm)]
   have H3:(sortWorld Es.v C.w b 0 n d' os).heap[b]?=some (.cells (putCells Es.v 0 d' us) 45 (0,0)):=by
    simp only[sortWorld,grow,putRow,mapBlock,Go.Sort.ahead];rw[dL (by simpa using hbs),dZ,ah rfl,hb];rfl
   have H4:(putCells Es.v 0 d' us).toList=d'.toList.map Es.v++rest:=by
    apply dJ;intro k;simp only[putCells,Array.toList_mapIdx,List.getElem?_mapIdx,dS,eV,bk,Nat.sub_zero,hpre];by_cases hk:k<d'.size
    ·rw[aU (by rw[hpl];omega),aU (by simpa using hk)];rw[aB (show k<pre.length by omega)];simp[hk]
    ·rw[bK (by rw[hpl];omega),bK (by simpa using hk)];have:k-pre.length=k-(d'.toList.map Es.v).length:=by simp;omega
     rw[this];cases hq:rest[k-(d'.toList.map Es.v).length]? with
     |none=>rfl
     |some z=>simp[hk]
   have same:∀b' o,own C.β [(0,Ob.iM 45 1 xs.length (h_ (gE 1 (gE 1 iD)) (ua xs)))] b' o<->own C.β C.s b' o:=fun b' o=>by
    rw[hs];constructor
    ·rintro⟨id,h⟩;by_cases hid:id=0
     ·subst hid;exact⟨0,h⟩
     ·rw[show sat [(0,Ob.iM 45 1 xs.length (h_ (gE 1 (gE 1 iD)) (ua xs)))] id=.dead by simp[sat,hid]]at h;exact h.elim
    ·rintro⟨id,h⟩;by_cases hid:id=0
     ·subst hid;exact⟨0,h⟩
     ·rw[show sat [(0,Ob.iM 45 1 xs.length (h_ (gE 1 (gE 1 iD)) xs))] id=.dead by simp[sat,hid]]at h;exact h.elim
   have sameB:∀id b',gF C.β [(0,Ob.iM 45 1 xs.length (h_ (gE 1 (gE 1 iD)) (ua xs)))] id b'<->gF C.β C.s id b':=fun id b'=>by
    rw[hs];by_cases hid:id=0
    ·subst hid;exact cM
    ·unfold gF;rw[show sat [(0,Ob.iM 45 1 xs.length (h_ (gE 1 (gE 1 iD)) (ua xs)))] id=.dead by simp[sat,hid],show sat [(0,Ob.iM 45 1 xs.length (h_ (gE 1 (gE 1 iD)) xs))] id=.dead by simp[sat,hid]]
   have m:mT C.β C.s C.w C.β [(0,Ob.iM 45 1 xs.length (h_ (gE 1 (gE 1 iD)) (ua xs)))] (sortWorld Es.v C.w b 0 n d' os):={
    size:=by simp only[sortWorld,grow,putRow,mapBlock,Go.Sort.ahead];simp
    io:=rfl
    keep:=fun b' o v hc hn=>by
     have hne:b'≠b:=fun e=>hn (by subst e;exact⟨0,by rw[hs];exact⟨cap,hβ⟩⟩)
     have:=H2 b' hne (tT hc);simp only[World.cell?]at hc⊢;rw[this];exact hc
    uy:=fun b' hlt hn=>H2 b' (fun e=>hn 0 (by subst e;rw[hs];exact⟨cap,hβ⟩)) hlt
    rH:=fun b' o h=>.inl ((same b' o).1 h)
    vt:=fun id b' h=>.inl ⟨id,(sameB id b').1 h⟩
    pl:=fun id=>.refl _}
   have hst':=hst.move m (fun id=>by
    by_cases hid:id=0
    ·subst hid;show vG C.β _ _ 0 (.iM 45 1 xs.length (h_ (gE 1 (gE 1 iD)) (ua xs)));refine⟨_,hβ,by rw[ES,zT];omega,.inr ⟨b,cap,_,rfl,H3,by simp[putCells,hus],hncap,hcap,?_,_,rest,H4,?_⟩⟩
     ·intro z hz;rw[H4,aI]at hz;rcases hz with hz|hz
      ·obtain⟨y,_,rfl⟩:=a_.1 hz;obtain⟨A,ca,e,_⟩:=y.ok;rw[e];rfl
      ·exact hone z (by rw[hpre];simp[hz])
     ·have g:D.hM (C.gP C.β [(0,Ob.iM 45 1 xs.length (h_ (gE 1 (gE 1 iD)) (ua xs)))]) (sortWorld Es.v C.w b 0 n d' os) (h_ (gE 1 (gE 1 iD)) (d'.toList.map Es.xs)) (d'.toList.map Es.v):=?_
      ·rw[hs3]at g;exact g
      refine J8 (O:=C.O) d'.toList fun y hy=>?_
      have:=m.ok (C:=C) (x:=.d (gE 1 (gE 1 iD) y.xs)) (v:=y.v) (by simp only[AV.ok];exact hd3 y (hp2.mem_iff.1 hy));simp only[AV.ok]at this;exact this
    ·rw[show sat [(0,Ob.iM 45 1 xs.length (h_ (gE 1 (gE 1 iD)) (ua xs)))] id=.dead by simp[sat,hid]];exact hdead id hid) (fun i j b' hi hj=>hinv.inj i j b' ((sameB i b').1 hi) ((sameB j b').1 hj))
   refine⟨.tuple #[],.nk [],C.β,_,rfl,hst'.inv,?_,rfl,rfl⟩;simp only[AV.ok,AV.hM];exact⟨#[],rfl,rfl⟩
 ·cases h⟩
end Go.Proofs.YthdnkoejpdcnpaaGreat
