/- The statement about FnUnravelled is proved: the law returns true at every input and leaves the input as it was; nothing is assumed. -/
import Derived.Test.YtelhemjlfkbkeaaGreatUe
import Derived.Test.YtelhemjlfkbkeaaGreatUl
import Derived.Test.YtelhemjlfkbkeaaGreatUn
import Derived.Test.YtelhemjlfkbkeaaGreatUo
import Derived.ProofKit
import Derived.OpenShut
import Derived.Below
import Derived.Carry
import Derived.Test.YtelhemjlfkbkeaaGreatRows
set_option linter.all false
namespace Go.Proofs.YtelhemjlfkbkeaaGreat
open Go oe Go.ChangeShapes Go.WideShapes Go.ChangeAt Go.RowKit
abbrev S3:oe.Own:=fun _ _=>False
theorem Il{P:Program}{f:Nat}{ds:List D}{r:D}(h:lz P f ds r){W:World}{vs:Array Value}(h1:∀v∈vs.toList,True)(hd:AV.iK (fun _=>.no) S3 W (ds.map .d) vs.toList):
 Calls P f vs W fun e W'=>(∃u,e=.returned u/\D.ok S3 W' r u)/\Below W.heap.size W W':=by
 have no:∀(b o:Nat),¬({O:=fun _ _=>False,β:=fun _=>.no,s:=[],w:=W,k:=0}:Ctx).gO (fun _=>.no) [] b o:=fun b o h=>by
  rcases h with h|⟨i,h⟩
  ·exact h
  ·exact h
 have hI:Inv {O:=fun _ _=>False,β:=fun _=>.no,s:=[],w:=W,k:=0} (fun _=>.no) [] W:=
  ⟨aO _,rfl,fun _ _ _ h _=>h,fun _ _ _=>rfl,fun _ _ h=>.inl h,fun id b h=>.inl ⟨id,h⟩,fun _ h=>absurd h (Nat.not_lt_zero _),fun _ _ h=>h.elim,fun _=>rfl,fun _ _ _ h=>h.elim⟩
 have ha:AV.iK (fun _=>.no) (({O:=fun _ _=>False,β:=fun _=>.no,s:=[],w:=W,k:=0}:Ctx).gO (fun _=>.no) []) W (ds.map .d) vs.toList:=by
  have e:(({O:=fun _ _=>False,β:=fun _=>.no,s:=[],w:=W,k:=0}:Ctx).gO (fun _=>.no) [])=S3:=by
   funext b o;exact propext ⟨fun h=>no b o h,fun h=>h.elim⟩
  rw[e];exact hd
 refine(h {O:=fun _ _=>False,β:=fun _=>.no,s:=[],w:=W,k:=0} vs rfl rfl hI ha).mono fun e W' hq=>?_
 obtain⟨u,x,β',s',rfl,hi,hx,rfl⟩:=hq;simp only[AV.ok]at hx;refine⟨⟨u,rfl,D.ke (fun b o v hc _=>⟨hc,fun h=>h⟩) _ _ hx⟩,?_⟩;have hio:=hi.io;simp only[EL,cI]at hio;exact⟨hio.1,hio.2.2,hio.2.1,hi.size,fun k hk=>hi.vr k hk fun id h=>h⟩
theorem Hg{b o i:Nat}:Addr.add ⟨b,o,none⟩ i=⟨b,o+i,none⟩:=by
 by_cases h:i=0
 ·simp[Addr.add,h]
 ·simp[Addr.add,h]
def Rd(P:Program)(t:TypeId)(e:Nat){α:Type}(f:α->D)(G:α->Prop):Prop:=
 P.cellsOf t=e/\∀{H:Type}{enc:TypeId×Value->H}{w:World}{spare:Nat->Bool}{held:Bool}{n:Nat}{cs:List Value}{x:DataW H×List MemPlace},
  DataW.trod enc P w 0 spare held n t cs=some x->∃y,G y/\cs.length=e/\(∀v∈cs,oe.one v=true)/\D.iK S3 w (gD (f y)) cs
theorem pR{O:oe.Own}{w:World}:∀{xs ys:List D}{us vs:List Value},D.iK O w xs us->D.iK O w ys vs->D.iK O w (xs++ys) (us++vs)
 |[],_,us,_,h,h2=>by simp only[D.iK]at h;subst h;exact h2
 |x::xs,_,us,_,h,h2=>by
  simp only[D.iK]at h;obtain⟨v,r,rfl,h1,h3,h4⟩:=h;simp only[bH,D.iK];exact⟨v,_,rfl,h1,h3,pR h4 h2⟩
theorem Rd.Z5{P:Program}{t:TypeId}{k:IntKind}(ht:P.underlying t=some (.int k))(hm:P.cellsOf t=1):Rd P t 1 (kD k) (fun x=>(Lit.int k x).wf=true):=⟨hm,fun{H enc w spare held n cs x} hx=>by
 obtain⟨m,hm⟩:=DataW.trod_int ht hx;obtain⟨rfl,_,hw⟩:=hm;exact⟨m,hw,rfl,by simp[oe.one],⟨_,_,rfl,rfl,⟨rfl,rfl⟩,rfl⟩⟩⟩
abbrev T6{α:Type}(xs:List α):Prop:=xs.length<9223372036854775808
theorem Rd.slice{P:Program}{t e:TypeId}{k:Nat}{α:Type}{f:α->D}{G:α->Prop}[uK f k](ht:P.underlying t=some (.slice e))(hm:P.cellsOf t=1)(hk:0<k)(h:Rd P e k f G)(hcel:∀y O w vs,D.iK O w (gD (f y)) vs->D.IZ O w (f y) vs):
 Rd P t 1 (gN k f) (fun xs=>T6 xs/\∀x∈xs,G x):=⟨hm,fun{H enc w spare held n cs x} hx=>by
 rcases DataW.trod_slice ht hx with⟨rfl,_⟩|⟨a,len,cap,elems,rest,n',rfl,rfl,_,_,hl,hmx,hlen,hel,_,_⟩
 ·refine⟨[],⟨by show(0:Nat)<9223372036854775808;decide,fun x hx=>(cS hx).elim⟩,rfl,by simp[oe.one],⟨_,_,rfl,rfl,?_,rfl⟩⟩;simp only[gN,D.ok];exact⟨none,0,rfl,⟨aO _,by decide⟩,trivial,.inl rfl⟩
 ·have hmx':cap<9223372036854775808:=by have:maxLen=2^63-1:=rfl;omega
  have each:∀i,i<len->∃y vs,G y/\vs.length=k/\(∀v∈vs,oe.one v=true)/\D.iK S3 w (gD (f y)) vs/\∀j,j<k->w.cell? ((a.add (i*k)).add j)=vs[j]?:=by
   intro i hi;have h1:=hel i hi;rw[h.1,aA (show i<elems.length by omega),ai]at h1;obtain⟨vs,h2,h3⟩:=h1;obtain⟨y,g1,g2,g3,g4⟩:=h.2 h3;obtain⟨_,_,h5⟩:=World.cells?_some h2;exact⟨y,vs,g1,g2,g3,g4,h5⟩
  rcases ff len with h0|hpos
  ·subst h0;refine⟨[],⟨by show(0:Nat)<9223372036854775808;decide,fun x hx=>(cS hx).elim⟩,rfl,by simp[oe.one],⟨_,_,rfl,rfl,?_,rfl⟩⟩;simp only[gN,D.ok];exact⟨some a,cap,rfl,⟨hl,hmx'⟩,trivial,.inl rfl⟩
  have hs:a.spot=none:=by
   obtain⟨y,vs,_,g2,_,_,g5⟩:=each 0 hpos;have h0:=g5 0 hk;rw[aA (show 0<vs.length by omega)]at h0;have:=World.cell?_spot h0;simpa[Addr.add]using this
  obtain⟨b,o,sp⟩:=a;simp only at hs;subst hs;have key:∀(m i:Nat),i+m=len->∃ys:List α,ys.length=m/\(∀y∈ys,G y)/\D.row S3 w b (o+i*k) k (ys.map f):=by
   intro m;induction m with
   |zero=>intro i _;exact⟨[],rfl,fun y hy=>(cS hy).elim,by simp[D.row]⟩
   |succ m ih=>
    intro i hi;obtain⟨ys,y1,y2,y4⟩:=ih (i+1) gu;obtain⟨y,vs,g1,g2,g3,g4,g5⟩:=each i gu;refine⟨y::ys,by simp[y1],fun z hz=>?_,?_⟩
    ·rcases bt.1 hz with rfl|hz
     ·exact g1
     ·exact y2 z hz
    ·rw[aT];refine D.oq.2 ⟨⟨vs,g2,fun j v hj=>?_,hcel _ _ _ _ g4⟩,?_⟩
     ·have hjk:j<k:=by rw[<-g2];exact(aN.1 hj).1
      have:=g5 j hjk;rw[hj]at this;refine⟨?_,fun h=>h,g3 v (bV hj)⟩;rw[<-this,Hg,Hg]
     ·have:=y4;rwa [bk,fE,<-cM]at this
  obtain⟨ys,y1,y2,y4⟩:=key len 0 gu;refine⟨ys,⟨by show ys.length<9223372036854775808;omega,y2⟩,rfl,by simp[oe.one],⟨_,_,rfl,rfl,?_,rfl⟩⟩;simp only[gN,D.ok];refine⟨some ⟨b,o,none⟩,cap,by rw[aS,y1],⟨by rw[aS];omega,gu⟩,trivial,?_⟩;exact .inr ⟨b,o,rfl,by simpa using y4⟩⟩
theorem Rd.cell{P:Program}{t:TypeId}{α:Type}{f:α->D}{G:α->Prop}(hr:Rd P t 1 f G)(hf:∀y,gD (f y)=[f y]){W:World}{v:Value}(hv:v.cells=#[v])
 {H:Type} {enc:TypeId×Value->H} {spare:Nat->Bool} {held:Bool} {d:DataW H} {p:List MemPlace} (h:DataW.Trod enc P W 0 spare held t v d p):∃y,G y/\D.ok S3 W (f y) v:=by
 obtain⟨fuel,hf'⟩:=h;obtain⟨y,g1,g2,g3,g4⟩:=hr.2 hf';refine⟨y,g1,?_⟩;rw[hf,hv]at g4;simp only[D.iK]at g4;obtain⟨u,r,e,_,g5,_⟩:=g4;simp at e;rw[e.1];exact g5
theorem aah:ownKnob Tryz.prog.godebug=none:=by kernel_rfl
theorem Wu:laidOutB Tryz.prog=true:=by kernel_rfl
theorem RG{α:Type}{f:α->D}(hf:∀y,gD (f y)=[f y])(ha:∀y cs,f y≠ .agg cs):∀y O w vs,D.iK O w (gD (f y)) vs->D.IZ O w (f y) vs:=fun y O w vs h=>by
 rw[hf]at h;obtain⟨v,r,e,_,h2,h3⟩:=h;have h3':r=[]:=h3;subst h3';have:=ha y;cases hy:f y with
 |agg cs=>exact absurd hy (this cs)
 |_=>rw[hy]at h2;exact⟨v,e,h2⟩
theorem rd5:Rd Tryz.prog 5 1 (kD .u8) (fun x:Int=>(Lit.int .u8 x).wf=true):=Rd.Z5 Tryz.underlying5 (by kernel_rfl)
theorem aal:Rd Tryz.prog 22 1 (gN 1 (kD .u8)) (fun x:fI=>(T6 x/\∀y0:Int,y0∈x->((Lit.int .u8 y0).wf=true))):=Rd.slice Tryz.underlying22 (by kernel_rfl) (by decide) rd5 (RG (fun _=>rfl) (fun _ _ h=>nomatch h))
section
variable{H:Type}{enc:TypeId×Value->H}{P:Program}{w:World}{base:Nat}{spare:Nat->Bool}{held:Bool}
theorem Kq{t0:TypeId}{args:Array Value}{ds:List (DataW H)}{ps:List MemPlace}(h:DataW.TrodAll enc P w base spare held [t0] args.toList ds ps):
 ∃v0 d0 p0,args=#[v0]/\ds=[d0]/\ps=p0/\DataW.Trod enc P w base spare held t0 v0 d0 p0:=by
 obtain⟨v0,vs0,d0,ds0,p0,q0,hargs,rfl,rfl,k0,h0⟩:=trodAll_cons h;obtain⟨rfl,rfl,rfl⟩:=trodAll_nil h0;exact⟨v0,d0,p0,by cases args;simp_all,rfl,by simp,k0⟩
end
theorem My{W:World}{v0:Value}{x0:fI}(g0:(T6 x0/\∀y0:Int,y0∈x0->((Lit.int .u8 y0).wf=true)))(h0:D.ok S3 W ((gN 1 (kD .u8)) x0) v0):
 Calls Tryz.prog 3 #[v0] W fun e W'=>e=.returned (.bool true)/\Below W.heap.size W W':=
 (Il (show lz Tryz.prog 3 [(gN 1 (kD .u8)) x0] (bD true)from O0) (vs:=#[v0]) (fun _ _=>trivial) ⟨v0,_,rfl,h0,rfl⟩).mono fun _ _ ⟨⟨_,h1,h2⟩,h3⟩=>by
  simp only[D.ok]at h2;exact⟨by rw[h1,h2.1],h3⟩
set_option maxRecDepth 100000 in
theorem Ab(os:Os)(started:os.Started)(H:Type)(enc:TypeId×Value->H):
 ReturnsInHanded {} Tryz.checked os 3 .any (Rows.fnUnravelledSpec.pre6 enc Tryz.prog Tryz.f3 Rows.fnUnravelledRow.domain false) (Rows.fnUnravelledSpec.post enc Tryz.prog Tryz.f3 false true false false):=by
 refine returnsInHanded_of_change (C:=Tryz.checked) aah started (by kernel_rfl) Tryz.func3
  (ChangeSpec.witness6 (enc:=enc) (C:=Tryz.checked) false ⟨#[],#[.slice none 0 0],[]⟩ 8 (by kernel_rfl) (by kernel_rfl) (by kernel_rfl) (by kernel_rfl)) ?_
 intro W base args ds gs before hval0 hW hcnd _;have hval:∀(j:Nat) t v,Tryz.f3.params[j]?=some t->args[j]?=some v->Value.okWide Tryz.prog W .any base t v:=hval0;have hW':=hW;obtain⟨p,q,hA0,hV,rfl,hfz,hnd⟩:=hW;have hA:DataW.TrodAll enc Tryz.prog W 0 (fun _=>true) true Tryz.f3.params.toList args.toList ds p:=hA0;rw[Tryz.params3]at hA hval;obtain⟨v0,d0,p0,rfl,rfl,hpp,t0⟩:=Kq hA;obtain rfl:p0=p:=hpp.symm;obtain⟨rfl,rfl⟩:=trodVars_none hV;have k0:=t0;have lt0:∀x∈p0,x.block<W.heap.size:=by obtain⟨m,hm⟩:=t0;exact DataW.trod_lt m _ _ _ hm
 obtain⟨a0,l0,c0,rfl⟩:=okWide_slice Tryz.underlying22 (hval 0 _ v0 rfl rfl);obtain⟨x0,g0,h0⟩:=aal.cell (fun _=>rfl) rfl t0;clear hA0 hval0;refine(My g0 h0).mono fun e W' ⟨he,bel⟩=>?_
 subst he;have s0:=Below.trod Wu (by kernel_rfl) (of_decide_eq_true (by kernel_rfl)) k0 bel lt0;exact⟨_,rfl,_,_,_,[],_,[],hW',trodAll_mk1 (shut_bool Tryz.underlying4 _),trodAll_mk1 s0,rfl,bel.frame _,fun h=>by cases h⟩
theorem fnUnravelled_proved:Rows.FnUnravelledSaid:=
 OpenClaim.holds_of_wide 3 Tryz.f3 rfl rfl rfl rfl rfl rfl rfl ⟨rfl,rfl,rfl,rfl,rfl⟩ rfl rfl rfl rfl rfl (by kernel_rfl) Tryz.func3 RH
  (of_decide_eq_true (by kernel_rfl)) (by unfold Func.isWrapper;first|(rw[aE (by decide +kernel)];kernel_rfl)|(rw[aJ (by decide +kernel)];exact⟨rfl,rfl⟩))
  (fun os started H enc _=>Ab os started H enc)
end Go.Proofs.YtelhemjlfkbkeaaGreat
