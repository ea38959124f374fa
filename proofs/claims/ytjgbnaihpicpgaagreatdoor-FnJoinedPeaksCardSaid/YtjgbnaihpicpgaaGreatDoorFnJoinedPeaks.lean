/- The statement about FnJoinedPeaks is proved: the law returns true at every input and leaves the input as it was; nothing is assumed. -/
import Derived.Test.YtjgbnaihpicpgaaGreatDoorPr
import Derived.Test.YtjgbnaihpicpgaaGreatDoorPs
import Derived.LaidMore
import Derived.Stop.Joined
import Derived.Stop.LaidErr
import Derived.WalkSmall
import Derived.MakeChecks
import Derived.LaidLaws
import Derived.Test.YtjgbnaihpicpgaaGreatDoorTie
import Derived.Test.YtjgbnaihpicpgaaGreatDoorCards
import Derived.SevenTiedAt
set_option linter.all false
namespace Go.Proofs.YtjgbnaihpicpgaaGreatDoor
open Go mm Go.ChangeShapes Go.WideShapes Go.ChangeAt Go.RowKit
open Go.Extern.Stop Go.Stop Go.Extern
section
variable{H:Type}{enc:TypeId×Value->H}{P:Program}{w:World}{base:Nat}{spare:Nat->Bool}{held:Bool}
theorem Jz{t0:TypeId}{args:Array Value}{ds:List (DataW H)}{ps:List MemPlace}(h:DataW.TrodAll enc P w base spare held [t0] args.toList ds ps):
 ∃v0 d0 p0,args=#[v0]/\ds=[d0]/\ps=p0/\DataW.Trod enc P w base spare held t0 v0 d0 p0:=by
 obtain⟨v0,vs0,d0,ds0,p0,q0,hargs,rfl,rfl,k0,h0⟩:=trodAll_cons h;obtain⟨rfl,rfl,rfl⟩:=trodAll_nil h0;exact⟨v0,d0,p0,by cases args;simp_all,rfl,by simp,k0⟩
end
theorem DG{code:gv}(hb:MZ code):jU Tryz.prog 4 [(ia 1 (kD .u8)) code] (bD true):=yG.c (LV hb)
theorem LW{W:World}(hgw:GW M4 W){v0:Value}{x0:gv}(g0:(Uk x0/\∀y0:Int,y0∈x0->((Lit.int .u8 y0).wf=true)))(h0:D.ok M4 W ((ia 1 (kD .u8)) x0) v0):
 Calls Tryz.prog 4 #[v0] W fun e W'=>e=.returned (.bool true)/\Below W.heap.size W W':=
 (Hq (show jU Tryz.prog 4 [(ia 1 (kD .u8)) x0] (bD true)from DG (hb:=fun y hy=>by have h:=g0.2 y hy;rw[Lit.wf,bu,av,av,show IntKind.u8.min=0 from rfl,show IntKind.u8.max=255 from rfl]at h;omega)) hgw (vs:=#[v0]) (fun _ _=>trivial) ⟨v0,_,rfl,h0,rfl⟩).mono fun _ _ ⟨⟨_,h1,h2⟩,h3⟩=>by
  simp only[D.ok]at h2;exact⟨by rw[h1,h2.1],h3⟩
theorem gE:Tryz.prog.globalNamed "loop.example/g00895/impl.errApart" =some 0:=by kernel_rfl
theorem N9:(Tryz.prog.globals[0]?).map (·.type)=some 71:=by kernel_rfl
theorem UI:Tryz.prog.cellsOf 268=1:=by kernel_rfl
theorem UJ:Tryz.prog.cellsOf 9=1:=by kernel_rfl
theorem Ug: "*" ++ "errors.errorString" = "*errors.errorString" :=by decide
theorem aaT(u:TypeId)(h:Tryz.prog.typeName? 3 u=some "*errors.errorString"):u=242:=
 typeName_ptr_named (nm:= "errors.errorString") (by rw[Ug];kernel_rfl) (by kernel_rfl) (by decide) u (by rw[Ug];exact h)
set_option maxRecDepth 100000 in
theorem yM(os:Os)(started:os.Started)(H:Type)(enc:TypeId×Value->H):
 ReturnsInHanded {} Tryz.checked os 4 .any (fun w args=>(Rows.fnJoinedPeaksSpec.pre enc Tryz.prog Tryz.f4 Rows.fnJoinedPeaksRow.domain false w args/\laidMetH Tryz.prog Rows.fnJoinedPeaksRow.laid w)/\sizedMet enc Tryz.prog Tryz.f4 (OpenSpec.ofChange Rows.fnJoinedPeaksSpec) false w args)
  (Rows.fnJoinedPeaksSpec.post enc Tryz.prog Tryz.f4 false true false false):=by
 refine returnsInHanded_of_change_and (C:=Tryz.checked) (X:=fun w _=>laidMetH Tryz.prog Rows.fnJoinedPeaksRow.laid w) (fun _ _ _ hh h=>h.of_heap hh) aaP started (by kernel_rfl) Tryz.func4
  (ChangeSpec.witness_shaped (enc:=enc) (C:=Tryz.checked) (os:=os) (X:=fun w _=>laidMetH Tryz.prog Rows.fnJoinedPeaksRow.laid w) false (World.doorLaid Tryz.prog 400 os) #[.slice none 0 0] 8 rfl (World.shaped_of_RefB (by kernel_rfl) (by kernel_rfl)) (by kernel_rfl) (by kernel_rfl) (by kernel_rfl) (laidMetH_of_parts3 (fuel:=8) (laidMet_of_run' 8 (by kernel_rfl) (by kernel_rfl)) (by kernel_rfl) (by kernel_rfl))) ?_
 intro W base args ds gs before hval0 hW _ _ hL _;have hval:∀(j:Nat) t v,Tryz.f4.params[j]?=some t->args[j]?=some v->Value.okWide Tryz.prog W .any base t v:=hval0;have hW':=hW;obtain⟨p,q,hA0,hV0,rfl,hfz,hnd⟩:=hW;have hV:DataW.TrodVars enc Tryz.prog W (fun _=>true) ["loop.example/g00895/impl.errApart"] gs q:=hV0;have hA:DataW.TrodAll enc Tryz.prog W 0 (fun _=>true) true Tryz.f4.params.toList args.toList ds p:=hA0;rw[Tryz.params4]at hA hval;obtain⟨v0,d0,p0,rfl,rfl,hpp,t0⟩:=Jz hA;obtain rfl:p0=p:=hpp.symm;rw[MakeChecks.laidMetH_plain _ _ _ (by kernel_rfl)]at hL;obtain⟨ae,se,hv,_,_,_⟩:=laid_sentinel hL gE N9 Tryz.underlying71 aaT Tryz.underlying242 Tryz.underlying268 rfl rfl Tryz.underlying9 UI UJ;have hcell:W.cell? ⟨0,0,none⟩=some (.iface 242 (.pointer (some ae))):=by simpa using World.var?_cell gE hv 0
 have hgw:GW M4 W:=⟨⟨ae,hcell⟩,fun h=>h⟩;have vr:∀{X:World},X.var? Tryz.prog "loop.example/g00895/impl.errApart" =some #[.iface 242 (.pointer (some ae))]->∀sp:Nat->Bool,
  DataW.TrodVars enc Tryz.prog X sp ["loop.example/g00895/impl.errApart"] [tok enc (.iface 242 (.pointer (some ae)))] [.cell 0 0]:=
  fun x0 sp=>vars_read1 enc gE N9 Tryz.underlying71 x0 trivial sp
 obtain⟨rfl,rfl⟩:=hV.unique (vr hv _);have k0:=t0;have lt0:∀x∈p0,x.block<W.heap.size:=by obtain⟨m,hm⟩:=t0;exact DataW.trod_lt m _ _ _ hm
 obtain⟨a0,l0,c0,rfl⟩:=okWide_slice Tryz.underlying37 (hval 0 _ v0 rfl rfl);obtain⟨x0,g0,h0⟩:=aaS.cell (fun _=>rfl) rfl t0;clear hA0 hval0 hV0;refine(LW hgw g0 h0).mono fun e W' ⟨he,bel⟩=>?_
 subst he;have s0:=Below.trod XL (by kernel_rfl) (of_decide_eq_true (by kernel_rfl)) k0 bel lt0;exact⟨_,rfl,_,_,_,[],_,[.cell 0 0],hW',trodAll_mk1 (shut_bool Tryz.underlying4 _),trodAll_mk1 s0,vr (var?_below bel gE (mm.jW hcell) hv) _,bel.frame _,fun h=>by cases h⟩
end Go.Proofs.YtjgbnaihpicpgaaGreatDoor
namespace Go.Proofs.YtjgbnaihpicpgaaGreatDoor
open Go mm Go.ChangeShapes Go.WideShapes Go.ChangeAt Go.RowKit
theorem Al:Rows.FnJoinedPeaksSaid:=
 OpenClaim.holds_of_wide 4 Tryz.f4 rfl rfl rfl rfl rfl rfl rfl ⟨rfl,rfl,rfl,rfl,rfl⟩ rfl rfl rfl rfl rfl (by kernel_rfl) Tryz.func4 Q1
  (of_decide_eq_true (by kernel_rfl)) (by unfold Func.isWrapper;first|(rw[ah (by decide +kernel)];kernel_rfl)|(rw[ak (by decide +kernel)];exact⟨rfl,rfl⟩))
  (fun os started H enc _=>yM os started H enc)
theorem fnJoinedPeaks_proved:Rows.FnJoinedPeaksCardSaid:=
 Claim7.holds_tied_plain_at .later [] Rows.fnJoinedPeaksCard.laidKinds true Rows.fnJoinedPeaksCard.stood.harness true
  Al (fun _ h=>by cases h) (by kernel_rfl) (fun _ h=>by cases h) fnJoinedPeaks_row_tie rfl ⟨rfl,rfl⟩ (by kernel_rfl) rfl
  (fun f fn hf hfn=>by
   obtain rfl:f=4:=c_ ((show Tryz.prog.funcNamed Tryz.f4.name=some 4 by kernel_rfl).symm.trans hf) |>.symm;obtain rfl:fn=Tryz.f4:=(c_ (Tryz.func4.symm.trans hfn)).symm;exact⟨by kernel_rfl,fun j t ht=>by
    rw[Tryz.params4]at ht;have hm:t∈[37]:=by simpa using Array.mem_of_getElem? ht
    have hall:([37].all fun u=>!Tryz.prog.wantsStandIn u)=true:=by kernel_rfl
    exact(show Tryz.prog.wantsStandIn t=false by simpa using cy.1 hall t hm)⟩)
  (by kernel_rfl)
end Go.Proofs.YtjgbnaihpicpgaaGreatDoor
