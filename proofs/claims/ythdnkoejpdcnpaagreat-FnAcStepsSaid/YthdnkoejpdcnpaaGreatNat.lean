/- A part of the proof about FnAcNormal and about FnAcSteps (Jx, Jy). -/
import Derived.Test.YthdnkoejpdcnpaaGreatNad
import Derived.Test.YthdnkoejpdcnpaaGreatNar
import Derived.Test.YthdnkoejpdcnpaaGreatNas
import Derived.ProofKit
import Derived.OpenShut
import Derived.Below
import Derived.Carry
import Derived.Test.YthdnkoejpdcnpaaGreatRows
set_option linter.all false
namespace Go.Proofs.YthdnkoejpdcnpaaGreat
open Go kI Go.ChangeShapes Go.WideShapes Go.ChangeAt Go.RowKit
abbrev P0:kI.Own:=fun _ _=>False
theorem Cw{P:Program}{f:Nat}{ds:List D}{r:D}(h:iC P f ds r){W:World}{vs:Array Value}(h1:∀v∈vs.toList,True)(hd:AV.hM (fun _=>.no) P0 W (ds.map .d) vs.toList):
 Calls P f vs W fun e W'=>(∃u,e=.returned u/\D.ok P0 W' r u)/\Below W.heap.size W W':=by
 have no:∀(b o:Nat),¬({O:=fun _ _=>False,β:=fun _=>.no,s:=[],w:=W,k:=0}:Ctx).gP (fun _=>.no) [] b o:=fun b o h=>by
  rcases h with h|⟨i,h⟩
  ·exact h
  ·exact h
 have hI:Inv {O:=fun _ _=>False,β:=fun _=>.no,s:=[],w:=W,k:=0} (fun _=>.no) [] W:=
  ⟨ay _,rfl,fun _ _ _ h _=>h,fun _ _ _=>rfl,fun _ _ h=>.inl h,fun id b h=>.inl ⟨id,h⟩,fun _ h=>absurd h (Nat.not_lt_zero _),fun _ _ h=>h.elim,fun _=>rfl,fun _ _ _ h=>h.elim⟩
 have ha:AV.hM (fun _=>.no) (({O:=fun _ _=>False,β:=fun _=>.no,s:=[],w:=W,k:=0}:Ctx).gP (fun _=>.no) []) W (ds.map .d) vs.toList:=by
  have e:(({O:=fun _ _=>False,β:=fun _=>.no,s:=[],w:=W,k:=0}:Ctx).gP (fun _=>.no) [])=P0:=by
   funext b o;exact propext ⟨fun h=>no b o h,fun h=>h.elim⟩
  rw[e];exact hd
 refine(h {O:=fun _ _=>False,β:=fun _=>.no,s:=[],w:=W,k:=0} vs rfl rfl hI ha).mono fun e W' hq=>?_
 obtain⟨u,x,β',s',rfl,hi,hx,rfl⟩:=hq;simp only[AV.ok]at hx;refine⟨⟨u,rfl,D.kL (fun b o v hc _=>⟨hc,fun h=>h⟩) _ _ hx⟩,?_⟩;have hio:=hi.io;simp only[Gb,Prod.mk.injEq]at hio;exact⟨hio.1,hio.2.2,hio.2.1,hi.size,fun k hk=>hi.uy k hk fun id h=>h⟩
theorem Gl{b o i:Nat}:Addr.add ⟨b,o,none⟩ i=⟨b,o+i,none⟩:=by
 by_cases h:i=0
 ·simp[Addr.add,h]
 ·simp[Addr.add,h]
def Rd(P:Program)(t:TypeId)(e:Nat){α:Type}(f:α->D)(G:α->Prop):Prop:=
 P.cellsOf t=e/\∀{H:Type}{enc:TypeId×Value->H}{w:World}{spare:Nat->Bool}{held:Bool}{n:Nat}{cs:List Value}{x:DataW H×List MemPlace},
  DataW.trod enc P w 0 spare held n t cs=some x->∃y,G y/\cs.length=e/\(∀v∈cs,kI.one v=true)/\D.hM P0 w (gJ (f y)) cs
theorem oH{O:kI.Own}{w:World}:∀{xs ys:List D}{us vs:List Value},D.hM O w xs us->D.hM O w ys vs->D.hM O w (xs++ys) (us++vs)
 |[],_,us,_,h,h2=>by simp only[D.hM]at h;subst h;exact h2
 |x::xs,_,us,_,h,h2=>by
  simp only[D.hM]at h;obtain⟨v,r,rfl,h1,h3,h4⟩:=h;simp only[cg,D.hM];exact⟨v,_,rfl,h1,h3,oH h4 h2⟩
theorem Rd.ZO{P:Program}{t:TypeId}{k:IntKind}(ht:P.underlying t=some (.int k))(hm:P.cellsOf t=1):Rd P t 1 (kD k) (fun x=>(Lit.int k x).wf=true):=⟨hm,fun{H enc w spare held n cs x} hx=>by
 obtain⟨m,hm⟩:=DataW.trod_int ht hx;obtain⟨rfl,_,hw⟩:=hm;exact⟨m,hw,rfl,by simp[kI.one],⟨_,_,rfl,rfl,⟨rfl,rfl⟩,rfl⟩⟩⟩
abbrev PX{α:Type}(xs:List α):Prop:=xs.length<9223372036854775808
theorem Rd.slice{P:Program}{t e:TypeId}{k:Nat}{α:Type}{f:α->D}{G:α->Prop}[yG f k](ht:P.underlying t=some (.slice e))(hm:P.cellsOf t=1)(hk:0<k)(h:Rd P e k f G)(hcel:∀y O w vs,D.hM O w (gJ (f y)) vs->D.Fj O w (f y) vs):
 Rd P t 1 (gE k f) (fun xs=>PX xs/\∀x∈xs,G x):=⟨hm,fun{H enc w spare held n cs x} hx=>by
 rcases DataW.trod_slice ht hx with⟨rfl,_⟩|⟨a,len,cap,elems,rest,n',rfl,rfl,_,_,hl,hmx,hlen,hel,_,_⟩
 ·refine⟨[],⟨by show(0:Nat)<9223372036854775808;decide,fun x hx=>(cG hx).elim⟩,rfl,by simp[kI.one],⟨_,_,rfl,rfl,?_,rfl⟩⟩;simp only[gE,D.ok];exact⟨none,0,rfl,⟨ay _,by decide⟩,trivial,.inl rfl⟩
 ·have hmx':cap<9223372036854775808:=by have:maxLen=2^63-1:=rfl;omega
  have each:∀i,i<len->∃y vs,G y/\vs.length=k/\(∀v∈vs,kI.one v=true)/\D.hM P0 w (gJ (f y)) vs/\∀j,j<k->w.cell? ((a.add (i*k)).add j)=vs[j]?:=by
   intro i hi;have h1:=hel i hi;rw[h.1,aB (show i<elems.length by omega),aC]at h1;obtain⟨vs,h2,h3⟩:=h1;obtain⟨y,g1,g2,g3,g4⟩:=h.2 h3;obtain⟨_,_,h5⟩:=World.cells?_some h2;exact⟨y,vs,g1,g2,g3,g4,h5⟩
  rcases fA len with h0|hpos
  ·subst h0;refine⟨[],⟨by show(0:Nat)<9223372036854775808;decide,fun x hx=>(cG hx).elim⟩,rfl,by simp[kI.one],⟨_,_,rfl,rfl,?_,rfl⟩⟩;simp only[gE,D.ok];exact⟨some a,cap,rfl,⟨hl,hmx'⟩,trivial,.inl rfl⟩
  have hs:a.spot=none:=by
   obtain⟨y,vs,_,g2,_,_,g5⟩:=each 0 hpos;have h0:=g5 0 hk;rw[aB (show 0<vs.length by omega)]at h0;have:=World.cell?_spot h0;simpa[Addr.add]using this
  obtain⟨b,o,sp⟩:=a;simp only at hs;subst hs;have key:∀(m i:Nat),i+m=len->∃ys:List α,ys.length=m/\(∀y∈ys,G y)/\D.row P0 w b (o+i*k) k (ys.map f):=by
   intro m;induction m with
   |zero=>intro i _;exact⟨[],rfl,fun y hy=>(cG hy).elim,by simp[D.row]⟩
   |succ m ih=>
    intro i hi;obtain⟨ys,y1,y2,y4⟩:=ih (i+1) gB;obtain⟨y,vs,g1,g2,g3,g4,g5⟩:=each i gB;refine⟨y::ys,by simp[y1],fun z hz=>?_,?_⟩
    ·rcases bu.1 hz with rfl|hz
     ·exact g1
     ·exact y2 z hz
    ·rw[aX];refine D.ni.2 ⟨⟨vs,g2,fun j v hj=>?_,hcel _ _ _ _ g4⟩,?_⟩
     ·have hjk:j<k:=by rw[<-g2];exact(aP.1 hj).1
      have:=g5 j hjk;rw[hj]at this;refine⟨?_,fun h=>h,g3 v (bQ hj)⟩;rw[<-this,Gl,Gl]
     ·have:=y4;rwa [bH,Nat.one_mul,<-cV]at this
  obtain⟨ys,y1,y2,y4⟩:=key len 0 gB;refine⟨ys,⟨by show ys.length<9223372036854775808;omega,y2⟩,rfl,by simp[kI.one],⟨_,_,rfl,rfl,?_,rfl⟩⟩;simp only[gE,D.ok];refine⟨some ⟨b,o,none⟩,cap,by rw[aM,y1],⟨by rw[aM];omega,gB⟩,trivial,?_⟩;exact .inr ⟨b,o,rfl,by simpa using y4⟩⟩
theorem Rd.cell{P:Program}{t:TypeId}{α:Type}{f:α->D}{G:α->Prop}(hr:Rd P t 1 f G)(hf:∀y,gJ (f y)=[f y]){W:World}{v:Value}(hv:v.cells=#[v])
 {H:Type} {enc:TypeId×Value->H} {spare:Nat->Bool} {held:Bool} {d:DataW H} {p:List MemPlace} (h:DataW.Trod enc P W 0 spare held t v d p):∃y,G y/\D.ok P0 W (f y) v:=by
 obtain⟨fuel,hf'⟩:=h;obtain⟨y,g1,g2,g3,g4⟩:=hr.2 hf';refine⟨y,g1,?_⟩;rw[hf,hv]at g4;simp only[D.hM]at g4;obtain⟨u,r,e,_,g5,_⟩:=g4;simp at e;rw[e.1];exact g5
theorem Yi:ownKnob Tryz.prog.godebug=none:=by kernel_rfl
theorem Si:laidOutB Tryz.prog=true:=by kernel_rfl
theorem Qy{α:Type}{f:α->D}(hf:∀y,gJ (f y)=[f y])(ha:∀y cs,f y≠ .agg cs):∀y O w vs,D.hM O w (gJ (f y)) vs->D.Fj O w (f y) vs:=fun y O w vs h=>by
 rw[hf]at h;obtain⟨v,r,e,_,h2,h3⟩:=h;have h3':r=[]:=h3;subst h3';have:=ha y;cases hy:f y with
 |agg cs=>exact absurd hy (this cs)
 |_=>rw[hy]at h2;exact⟨v,e,h2⟩
theorem rd5:Rd Tryz.prog 5 1 (kD .u8) (fun x:Int=>(Lit.int .u8 x).wf=true):=Rd.ZO Tryz.underlying5 (by kernel_rfl)
theorem Yl:Rd Tryz.prog 40 1 (gE 1 (kD .u8)) (fun x:fP=>(PX x/\∀y0:Int,y0∈x->((Lit.int .u8 y0).wf=true))):=Rd.slice Tryz.underlying40 (by kernel_rfl) (by decide) rd5 (Qy (fun _=>rfl) (fun _ _ h=>nomatch h))
end Go.Proofs.YthdnkoejpdcnpaaGreat
