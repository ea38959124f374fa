/- The statement about FnAcSteps is proved: the law returns true at every input and leaves the input as it was; nothing is assumed. -/
import Derived.Test.YthdnkoejpdcnpaaGreatNaa
import Derived.Test.YthdnkoejpdcnpaaGreatNat
import Derived.ProofKit
import Derived.JoinedOf
import Derived.KernelRfl
import Derived.Test.YthdnkoejpdcnpaaGreatRows
set_option linter.all false
namespace Go.Proofs.YthdnkoejpdcnpaaGreat
open Go Go.ChangeShapes Go.WideShapes Go.ChangeAt Go.RowKit
theorem T7{a b:Bool}(ha:a=true)(hb:b=true):(a&&b)=true:=by rw[ha,hb];rfl
set_option maxRecDepth 100000 in
set_option maxHeartbeats 4000000 in
theorem QA:joinedFacts Tryz.prog 9 Tryz.f9 Rows.fnAcStepsSpec Rows.fnAcStepsRow=true:=by
 unfold joinedFacts
 with_reducible repeat' refine T7 ?_ ?_
 all_goals as_aux_lemma=>kernel_rfl
end Go.Proofs.YthdnkoejpdcnpaaGreat
namespace Go.Proofs.YthdnkoejpdcnpaaGreat
open Go kI Go.ChangeShapes Go.WideShapes Go.ChangeAt Go.RowKit
section
variable{H:Type}{enc:TypeId×Value->H}{P:Program}{w:World}{base:Nat}{spare:Nat->Bool}{held:Bool}
theorem Jy{t0:TypeId}{args:Array Value}{ds:List (DataW H)}{ps:List MemPlace}(h:DataW.TrodAll enc P w base spare held [t0] args.toList ds ps):
 ∃v0 d0 p0,args=#[v0]/\ds=[d0]/\ps=p0/\DataW.Trod enc P w base spare held t0 v0 d0 p0:=by
 obtain⟨v0,vs0,d0,ds0,p0,q0,hargs,rfl,rfl,k0,h0⟩:=trodAll_cons h;obtain⟨rfl,rfl,rfl⟩:=trodAll_nil h0;exact⟨v0,d0,p0,by cases args;simp_all,rfl,by simp,k0⟩
end
theorem Lw{W:World}{v0:Value}{x0:fP}(g0:(PX x0/\∀y0:Int,y0∈x0->((Lit.int .u8 y0).wf=true)))(h0:D.ok P0 W ((gE 1 (kD .u8)) x0) v0):
 Calls Tryz.prog 9 #[v0] W fun e W'=>e=.returned (.bool true)/\Below W.heap.size W W':=
 (Cw (show iC Tryz.prog 9 [(gE 1 (kD .u8)) x0] (bD true)from Lu) (vs:=#[v0]) (fun _ _=>trivial) ⟨v0,_,rfl,h0,rfl⟩).mono fun _ _ ⟨⟨_,h1,h2⟩,h3⟩=>by
  simp only[D.ok]at h2;exact⟨by rw[h1,h2.1],h3⟩
set_option maxRecDepth 100000 in
theorem BN(os:Os)(started:os.Started)(H:Type)(enc:TypeId×Value->H):
 ReturnsInHanded {} Tryz.checked os 9 .any (Rows.fnAcStepsSpec.pre6 enc Tryz.prog Tryz.f9 Rows.fnAcStepsRow.domain false) (Rows.fnAcStepsSpec.post enc Tryz.prog Tryz.f9 false true false false):=by
 refine returnsInHanded_of_change (C:=Tryz.checked) Yi started (by kernel_rfl) Tryz.func9
  (ChangeSpec.witness6 (enc:=enc) (C:=Tryz.checked) false ⟨#[],#[.slice none 0 0],[]⟩ 8 (by kernel_rfl) (by kernel_rfl) (by kernel_rfl) (by kernel_rfl)) ?_
 intro W base args ds gs before hval0 hW hcnd _;have hval:∀(j:Nat) t v,Tryz.f9.params[j]?=some t->args[j]?=some v->Value.okWide Tryz.prog W .any base t v:=hval0;have hW':=hW;obtain⟨p,q,hA0,hV,rfl,hfz,hnd⟩:=hW;have hA:DataW.TrodAll enc Tryz.prog W 0 (fun _=>true) true Tryz.f9.params.toList args.toList ds p:=hA0;rw[Tryz.params9]at hA hval;obtain⟨v0,d0,p0,rfl,rfl,hpp,t0⟩:=Jy hA;obtain rfl:p0=p:=hpp.symm;obtain⟨rfl,rfl⟩:=trodVars_none hV;have k0:=t0;have lt0:∀x∈p0,x.block<W.heap.size:=by obtain⟨m,hm⟩:=t0;exact DataW.trod_lt m _ _ _ hm
 obtain⟨a0,l0,c0,rfl⟩:=okWide_slice Tryz.underlying40 (hval 0 _ v0 rfl rfl);obtain⟨x0,g0,h0⟩:=Yl.cell (fun _=>rfl) rfl t0;clear hA0 hval0;refine(Lw g0 h0).mono fun e W' ⟨he,bel⟩=>?_
 subst he;have s0:=Below.trod Si (by kernel_rfl) (ct (by kernel_rfl)) k0 bel lt0;exact⟨_,rfl,_,_,_,[],_,[],hW',trodAll_mk1 (shut_bool Tryz.underlying4 _),trodAll_mk1 s0,rfl,bel.frame _,fun h=>by cases h⟩
theorem fnAcSteps_proved:Rows.FnAcStepsSaid:=
 OpenClaim.holds_of_wide 9 Tryz.f9 rfl rfl rfl rfl rfl rfl rfl ⟨rfl,rfl,rfl,rfl,rfl⟩ rfl rfl rfl rfl rfl (by kernel_rfl) Tryz.func9 QA
  (ct (by kernel_rfl)) (by unfold Func.isWrapper;first|(rw[ah (by decide +kernel)];kernel_rfl)|(rw[az (by decide +kernel)];exact⟨rfl,rfl⟩))
  (fun os started H enc _=>BN os started H enc)
end Go.Proofs.YthdnkoejpdcnpaaGreat
