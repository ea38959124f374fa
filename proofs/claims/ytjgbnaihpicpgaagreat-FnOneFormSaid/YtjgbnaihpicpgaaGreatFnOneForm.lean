/- The statement about FnOneForm is proved: the law returns true at every input and leaves the input as it was; nothing is assumed. -/
import Derived.Test.YtjgbnaihpicpgaaGreatOr
import Derived.Test.YtjgbnaihpicpgaaGreatOs
set_option linter.all false
namespace Go.Proofs.YtjgbnaihpicpgaaGreat
open Go ng Go.ChangeShapes Go.WideShapes Go.ChangeAt Go.RowKit
section
variable{H:Type}{enc:TypeId×Value->H}{P:Program}{w:World}{base:Nat}{spare:Nat->Bool}{held:Bool}
theorem Jh{t0:TypeId}{args:Array Value}{ds:List (DataW H)}{ps:List MemPlace}(h:DataW.TrodAll enc P w base spare held [t0] args.toList ds ps):
 ∃v0 d0 p0,args=#[v0]/\ds=[d0]/\ps=p0/\DataW.Trod enc P w base spare held t0 v0 d0 p0:=by
 obtain⟨v0,vs0,d0,ds0,p0,q0,hargs,rfl,rfl,k0,h0⟩:=trodAll_cons h;obtain⟨rfl,rfl,rfl⟩:=trodAll_nil h0;exact⟨v0,d0,p0,by cases args;simp_all,rfl,by simp,k0⟩
end
theorem LA{W:World}{v0:Value}{x0:gB}(g0:(Ue x0/\∀y0:Int,y0∈x0->((Lit.int .u8 y0).wf=true)))(h0:D.ok Sz W ((iq 1 (kD .u8)) x0) v0):
 Calls Tryz.prog 3 #[v0] W fun e W'=>e=.returned (.bool true)/\Below W.heap.size W W':=
 (G4 (show jW Tryz.prog 3 [(iq 1 (kD .u8)) x0] (bD true)from Fb (hb:=fun y hy=>by have h:=g0.2 y hy;rw[Lit.wf,a_,av,av,show IntKind.u8.min=0 from rfl,show IntKind.u8.max=255 from rfl]at h;omega)) (vs:=#[v0]) (fun _ _=>trivial) ⟨v0,_,rfl,h0,rfl⟩).mono fun _ _ ⟨⟨_,h1,h2⟩,h3⟩=>by
  simp only[D.ok]at h2;exact⟨by rw[h1,h2.1],h3⟩
set_option maxRecDepth 100000 in
theorem Bx(os:Os)(started:os.Started)(H:Type)(enc:TypeId×Value->H):
 ReturnsInHanded {} Tryz.checked os 3 .any (Rows.fnOneFormSpec.pre6 enc Tryz.prog Tryz.f3 Rows.fnOneFormRow.domain false) (Rows.fnOneFormSpec.post enc Tryz.prog Tryz.f3 false true false false):=by
 refine returnsInHanded_of_change (C:=Tryz.checked) aag started (by kernel_rfl) Tryz.func3
  (ChangeSpec.witness6 (enc:=enc) (C:=Tryz.checked) false ⟨#[],#[.slice none 0 0],[]⟩ 8 (by kernel_rfl) (by kernel_rfl) (by kernel_rfl) (by kernel_rfl)) ?_
 intro W base args ds gs before hval0 hW hcnd _;have hval:∀(j:Nat) t v,Tryz.f3.params[j]?=some t->args[j]?=some v->Value.okWide Tryz.prog W .any base t v:=hval0;have hW':=hW;obtain⟨p,q,hA0,hV,rfl,hfz,hnd⟩:=hW;have hA:DataW.TrodAll enc Tryz.prog W 0 (fun _=>true) true Tryz.f3.params.toList args.toList ds p:=hA0;rw[Tryz.params3]at hA hval;obtain⟨v0,d0,p0,rfl,rfl,hpp,t0⟩:=Jh hA;obtain rfl:p0=p:=hpp.symm;obtain⟨rfl,rfl⟩:=trodVars_none hV;have k0:=t0;have lt0:∀x∈p0,x.block<W.heap.size:=by obtain⟨m,hm⟩:=t0;exact DataW.trod_lt m _ _ _ hm
 obtain⟨a0,l0,c0,rfl⟩:=okWide_slice Tryz.underlying22 (hval 0 _ v0 rfl rfl);obtain⟨x0,g0,h0⟩:=aaj.cell (fun _=>rfl) rfl t0;clear hA0 hval0;refine(LA g0 h0).mono fun e W' ⟨he,bel⟩=>?_
 subst he;have s0:=Below.trod XD (by kernel_rfl) (eX (by kernel_rfl)) k0 bel lt0;exact⟨_,rfl,_,_,_,[],_,[],hW',trodAll_mk1 (shut_bool Tryz.underlying4 _),trodAll_mk1 s0,rfl,bel.frame _,fun h=>by cases h⟩
theorem fnOneForm_proved:Rows.FnOneFormSaid:=
 OpenClaim.holds_of_wide 3 Tryz.f3 rfl rfl rfl rfl rfl rfl rfl ⟨rfl,rfl,rfl,rfl,rfl⟩ rfl rfl rfl rfl rfl (by kernel_rfl) Tryz.func3 QH
  (eX (by kernel_rfl)) (by unfold Func.isWrapper;first|(rw[ah (by decide +kernel)];kernel_rfl)|(rw[aj (by decide +kernel)];exact⟨rfl,rfl⟩))
  (fun os started H enc _=>Bx os started H enc)
end Go.Proofs.YtjgbnaihpicpgaaGreat
