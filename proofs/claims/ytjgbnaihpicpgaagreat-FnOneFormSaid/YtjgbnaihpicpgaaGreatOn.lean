/- A part of the proof about FnOneForm (HU, ThA, Un, Un2, Un3, Un4, Un5, Un6, Un7, Un8, Un9, OD). -/
import Derived.Test.YtjgbnaihpicpgaaGreatOa
import Derived.Test.YtjgbnaihpicpgaaGreatOc
set_option linter.all false
noncomputable section
namespace Hu
inductive T where
 |v (n:Nat):T
 |c:T
 |g (a:T):T
 |f (a b:T):T
inductive C where
 |hole:C
 |g (k:C):C
 |fl (k:C) (b:T):C
 |fr (a:T) (k:C):C
def T.size:T->Nat
 |.v _=>1
 |.c=>1
 |.g a=>a.size+1
 |.f a b=>a.size+b.size+1
def T.sub(σ:Nat->T):T->T
 |.v n=>σ n
 |.c=>.c
 |.g a=>.g (a.sub σ)
 |.f a b=>.f (a.sub σ) (b.sub σ)
def T.has(n:Nat):T->Prop
 |.v m=>m=n
 |.c=>False
 |.g a=>a.has n
 |.f a b=>a.has n\/b.has n
def T.SV:T->Prop
 |.v _=>True
 |.c=>True
 |.g a=>a.SV
 |.f a b=>a.SV/\b.SV/\∀n,a.has n->b.has n->False
def T.Z3:T->Bool
 |.v _=>true
 |_=>false
def C.fill:C->T->T
 |.hole,t=>t
 |.g k,t=>.g (k.fill t)
 |.fl k b,t=>.f (k.fill t) b
 |.fr a k,t=>.f a (k.fill t)
def C.sub(σ:Nat->T):C->C
 |.hole=>.hole
 |.g k=>.g (k.sub σ)
 |.fl k b=>.fl (k.sub σ) (b.sub σ)
 |.fr a k=>.fr (a.sub σ) (k.sub σ)
theorem sub_congr{σ τ:Nat->T}:∀{t:T},(∀n,t.has n->σ n=τ n)->t.sub σ=t.sub τ
 |.v n,h=>h n rfl
 |.c,h=>rfl
 |.g a,h=>by simp only[T.sub];rw[sub_congr (t:=a) h]
 |.f a b,h=>by simp only[T.sub];rw[sub_congr (t:=a) fun n hn=>h n (.inl hn),sub_congr (t:=b) fun n hn=>h n (.inr hn)]
theorem CG{σ τ:Nat->T}:∀{t:T},t.sub σ=t.sub τ->∀n,t.has n->σ n=τ n
 |.v m,h,n,hn=>by cases hn;exact h
 |.c,h,n,hn=>by cases hn
 |.g a,h,n,hn=>CG (t:=a) (T.g.inj h) n hn
 |.f a b,h,n,hn=>by
  obtain⟨h1,h2⟩:=T.f.inj h;rcases hn with hn|hn
  ·exact CG h1 n hn
  ·exact CG h2 n hn
theorem size_pos:∀t:T,0<t.size
 |.v _=>Nat.one_pos
 |.c=>Nat.one_pos
 |.g a=>Nat.succ_pos _
 |.f a b=>Nat.succ_pos _
section
variable(R:T->T->Prop)
inductive Pw:T->T->Nat->Prop
 |v (n:Nat):Pw (.v n) (.v n) 0
 |c:Pw .c .c 0
 |g {a a':T} {n:Nat} (h:Pw a a' n):Pw (.g a) (.g a') n
 |f {a a' b b':T} {n m:Nat} (h:Pw a a' n) (k:Pw b b' m):Pw (.f a b) (.f a' b') (n+m)
 |root {x y l r:T} {σ:Nat->T} (h:R l r) (hx:x=l.sub σ) (hy:y=r.sub σ):Pw x y x.size
inductive PP:T->T->T->Nat->Prop
 |v (n:Nat):PP (.v n) (.v n) (.v n) 0
 |c:PP .c .c .c 0
 |g {a p q:T} {n:Nat} (h:PP a p q n):PP (.g a) (.g p) (.g q) n
 |f {a p q b p' q':T} {n m:Nat} (h:PP a p q n) (k:PP b p' q' m):PP (.f a b) (.f p p') (.f q q') (n+m)
 |l {x y z l r:T} {σ:Nat->T} {n:Nat} (h:R l r) (hx:x=l.sub σ) (hy:y=r.sub σ) (k:Pw R x z n):PP x y z n
 |r {x y z l r:T} {σ:Nat->T} {n:Nat} (h:R l r) (hx:x=l.sub σ) (hz:z=r.sub σ) (k:Pw R x y n):PP x y z n
def Pa(x y:T):Prop:=∃n,Pw R x y n
end
variable{R:T->T->Prop}
theorem Pw.refl:∀x:T,Pw R x x 0
 |.v n=>.v n
 |.c=>.c
 |.g a=>.g (Pw.refl a)
 |.f a b=>.f (Pw.refl a) (Pw.refl b)
theorem Pw.le{x y:T}{n:Nat}(h:Pw R x y n):n<=x.size:=by
 induction h with
 |v n=>exact cW _
 |c=>exact cW _
 |g h ih=>exact Nat.le_succ_of_le ih
 |f h k ih jh=>simp only[T.size];omega
 |root h hx hy=>exact aA _
theorem Pa.refl(x:T):Pa R x x:=⟨0,.refl x⟩
theorem Pa.sub{σ τ:Nat->T}(h:∀n,Pa R (σ n) (τ n)):∀t:T,Pa R (t.sub σ) (t.sub τ)
 |.v n=>h n
 |.c=>⟨0,.c⟩
 |.g a=>by obtain⟨n,k⟩:=Pa.sub h a;exact⟨_,.g k⟩
 |.f a b=>by
  obtain⟨n,k⟩:=Pa.sub h a;obtain⟨m,j⟩:=Pa.sub h b;exact⟨_,.f k j⟩
theorem Pa.root{l r:T}{σ:Nat->T}(h:R l r):Pa R (l.sub σ) (r.sub σ):=⟨_,.root h rfl rfl⟩
theorem Pa.fill{x y:T}(h:Pa R x y):∀k:C,Pa R (k.fill x) (k.fill y)
 |.hole=>h
 |.g k=>by obtain⟨n,j⟩:=h.fill k;exact⟨_,.g j⟩
 |.fl k b=>by obtain⟨n,j⟩:=h.fill k;exact⟨_,.f j (.refl b)⟩
 |.fr a k=>by obtain⟨n,j⟩:=h.fill k;exact⟨_,.f (.refl a) j⟩
theorem Pw.under{x y:T}{n:Nat}(h:Pw R x y n)(τ:Nat->T):Pa R (x.sub τ) (y.sub τ):=by
 induction h with
 |v n=>exact .refl _
 |c=>exact .refl _
 |g h ih=>obtain⟨m,k⟩:=ih;exact⟨_,.g k⟩
 |f h k ih jh=>obtain⟨m,k⟩:=ih;obtain⟨m',k'⟩:=jh;exact⟨_,.f k k'⟩
 |@root x y l r σ h hx hy=>
  have e:∀t:T,(t.sub σ).sub τ=t.sub fun n=>(σ n).sub τ:=fun t=>by
   induction t with
   |v n=>rfl
   |c=>rfl
   |g a ih=>simp only[T.sub,ih]
   |f a b ih jh=>simp only[T.sub,ih,jh]
  rw[hx,hy,e,e];exact .root h
theorem Yt{x y z:T}{n m:Nat}(h:Pw R x y n)(k:Pw R x z m):∃i,PP R x y z i/\i<=n/\i<=m:=by
 induction h generalizing z m with
 |v n=>
  cases k with
  |v=>exact⟨0,.v n,aA _,aA _⟩
  |root h hx hy=>exact⟨_,.r h hx hy (.v n),aA _,cW _⟩
 |c=>
  cases k with
  |c=>exact⟨0,.c,aA _,aA _⟩
  |root h hx hy=>exact⟨_,.r h hx hy .c,aA _,cW _⟩
 |g h ih=>
  cases k with
  |g k=>obtain⟨i,p,q,r⟩:=ih k;exact⟨i,.g p,q,r⟩
  |root h' hx hy=>exact⟨_,.r h' hx hy (.g h),aA _,(Pw.g h).le⟩
 |f h h' ih ih'=>
  cases k with
  |f k k'=>
   obtain⟨i,p,q,r⟩:=ih k;obtain⟨i',p',q',r'⟩:=ih' k';exact⟨_,.f p p',Nat.add_le_add q q',Nat.add_le_add r r'⟩
  |root h2 hx hy=>exact⟨_,.r h2 hx hy (.f h h'),aA _,(Pw.f h h').le⟩
 |root h hx hy=>exact⟨_,.l h hx hy k,k.le,aA _⟩
theorem xH{σ:Nat->T}:∀{s y:T}{n:Nat},s.SV->Pw R (s.sub σ) y n->
 (∃σ':Nat->T,y=s.sub σ'/\(∀m,Pa R (σ m) (σ' m))/\∀m,¬s.has m->σ' m=σ m)\/
 ∃(k:C)(u l r:T)(τ:Nat->T)(i:Nat),s=k.fill u/\u.Z3=false/\R l r/\u.sub σ=l.sub τ/\Pw R ((k.sub σ).fill (r.sub τ)) y i/\i<n
 |.v m,y,n,hl,h=>by
  refine .inl ⟨fun j=>if j=m then y else σ j,by simp[T.sub],fun j=>?_,fun j hj=>?_⟩
  ·by_cases c:j=m
   ·subst c;simp only[aC];exact⟨n,h⟩
   ·simp only[aj c];exact .refl _
  ·exact aj fun c=>hj c.symm
 |.c,y,n,hl,h=>by
  cases h with
  |c=>exact .inl ⟨σ,rfl,fun _=>.refl _,fun _ _=>rfl⟩
  |root h hx hy=>exact .inr ⟨.hole,.c,_,_,_,0,rfl,rfl,h,hx,hy▸ .refl _,size_pos _⟩
 |.g a,y,n,hl,h=>by
  cases h with
  |@g _ a' _ h=>
   rcases xH (s:=a) hl h with⟨σ',rfl,h1,h2⟩|⟨k,u,l,r,τ,i,rfl,h1,h2,h3,h4,h5⟩
   ·exact .inl ⟨σ',rfl,h1,h2⟩
   ·exact .inr ⟨.g k,u,l,r,τ,i,rfl,h1,h2,h3,.g h4,h5⟩
  |root h hx hy=>exact .inr ⟨.hole,.g a,_,_,_,0,rfl,rfl,h,hx,hy▸ .refl _,size_pos _⟩
 |.f a b,y,n,hl,h=>by
  cases h with
  |@f _ a' _ b' n1 n2 h h'=>
   rcases xH (s:=a) hl.1 h with⟨σ1,rfl,h1,h2⟩|⟨k,u,l,r,τ,i,rfl,h1,h2,h3,h4,h5⟩
   ·rcases xH (s:=b) hl.2.1 h' with⟨σ2,rfl,k1,k2⟩|⟨k,u,l,r,τ,i,rfl,h1,h2,h3,h4,h5⟩
    ·refine .inl ⟨fun j=>open Classical in if a.has j then σ1 j else σ2 j,?_,fun j=>?_,fun j hj=>?_⟩
     ·simp only[T.sub];congr 1
      ·exact sub_congr fun j hj=>(ah hj).symm
      ·exact sub_congr fun j hj=>(aj fun c=>hl.2.2 j c hj).symm
     ·by_cases c:a.has j
      ·simp only[ah c];exact h1 j
      ·simp only[aj c];exact k1 j
     ·have c1:¬a.has j:=fun c=>hj (.inl c)
      have c2:¬b.has j:=fun c=>hj (.inr c)
      simp only[aj c1];exact k2 j c2
    ·exact .inr ⟨.fr a k,u,l,r,τ,_,rfl,h1,h2,h3,.f h h4,h_⟩
   ·exact .inr ⟨.fl k b,u,l,r,τ,_,rfl,h1,h2,h3,.f h4 h',h_⟩
  |root h hx hy=>exact .inr ⟨.hole,.f a b,_,_,_,0,rfl,rfl,h,hx,hy▸ .refl _,size_pos _⟩
structure zN(R:T->T->Prop):Prop where
 nv:∀{l r},R l r->l.Z3=false
 SV:∀{l r},R l r->l.SV
 vars:∀{l r},R l r->∀n,r.has n->l.has n
 cl:∀{l r l' r':T}{k:C}{u:T}{σ τ:Nat->T},R l r->R l' r'->l=k.fill u->u.Z3=false->u.sub σ=l'.sub τ->Pa R ((k.sub σ).fill (r'.sub τ)) (r.sub σ)
theorem PP.join(hR:zN R):∀(N:Nat){x y z:T}{n:Nat},PP R x y z n->n<N->∃w,Pa R y w/\Pa R z w
 |0,_,_,_,_,_,h=>absurd h (gr _)
 |N+1,x,y,z,n,h,hn=>by
  have key:∀{x y z l r:T}{σ:Nat->T}{n:Nat},R l r->x=l.sub σ->y=r.sub σ->Pw R x z n->n<N+1->∃w,Pa R y w/\Pa R z w:=by
   intro x y z l r σ n h hx hy k hn;subst hx hy;rcases xH (hR.SV h) k with⟨σ',rfl,h1,_⟩|⟨k,u,l',r',τ,i,e,h1,h2,h3,h4,h5⟩
   ·exact⟨_,Pa.sub h1 r,Pa.root h⟩
   ·obtain⟨j,hj⟩:=hR.cl h h2 e h1 h3;obtain⟨q,p1,p2,p3⟩:=Yt hj h4;exact PP.join hR N p1 h_
  induction h with
  |v n=>exact⟨_,.refl _,.refl _⟩
  |c=>exact⟨_,.refl _,.refl _⟩
  |g h ih=>
   obtain⟨w,⟨n1,h1⟩,n2,h2⟩:=ih hn;exact⟨.g w,⟨_,.g h1⟩,_,.g h2⟩
  |f h k ih jh=>
   obtain⟨w,⟨n1,h1⟩,n2,h2⟩:=ih h_;obtain⟨w',⟨n1',h1'⟩,n2',h2'⟩:=jh h_;exact⟨.f w w',⟨_,.f h1 h1'⟩,_,.f h2 h2'⟩
  |l h hx hy k=>exact key h hx hy k hn
  |r h hx hz k=>obtain⟨w,h1,h2⟩:=key h hx hz k hn;exact⟨w,h2,h1⟩
theorem Pa.dia(hR:zN R){x y z:T}(h:Pa R x y)(k:Pa R x z):∃w,Pa R y w/\Pa R z w:=by
 obtain⟨n,h⟩:=h;obtain⟨m,k⟩:=k;obtain⟨i,p,_⟩:=Yt h k;exact p.join hR (i+1) (cZ _)
inductive St(R:T->T->Prop):T->T->Prop
 |nil (x:T):St R x x
 |cons {x y z:T} (h:Pa R x y) (k:St R y z):St R x z
theorem St.strip(hR:zN R){x z:T}(k:St R x z):∀{y:T},Pa R x y->∃w,St R y w/\Pa R z w:=by
 induction k with
 |nil x=>exact fun h=>⟨_,.nil _,h⟩
 |cons h k ih=>
  intro y h';obtain⟨w,p,q⟩:=h'.dia hR h;obtain⟨w',p',q'⟩:=ih q;exact⟨w',.cons p p',q'⟩
theorem St.Zf(hR:zN R){x y:T}(h:St R x y):∀{z:T},St R x z->∃w,St R y w/\St R z w:=by
 induction h with
 |nil x=>exact fun k=>⟨_,k,.nil _⟩
 |cons h k ih=>
  intro z k';obtain⟨w,p,q⟩:=k'.strip hR h;obtain⟨w',p',q'⟩:=ih p;exact⟨w',p',.cons q q'⟩
theorem St.tail{x y z:T}(h:St R x y)(k:Pa R y z):St R x z:=by
 induction h with
 |nil x=>exact .cons k (.nil _)
 |cons h _ ih=>exact .cons h (ih k)
def Nf(R:T->T->Prop)(x:T):Prop:=∀(k:C)(l r:T)(σ:Nat->T),R l r->x≠k.fill (l.sub σ)
theorem Nf.pa{x y:T}{n:Nat}(h:Pw R x y n):Nf R x->y=x:=by
 induction h with
 |v n=>exact fun _=>rfl
 |c=>exact fun _=>rfl
 |g h ih=>exact fun hn=>by rw[ih fun k l r σ hr e=>hn (.g k) l r σ hr (by rw[e];rfl)]
 |f h k ih jh=>
  intro hn;rw[ih fun k l r σ hr e=>hn (.fl k _) l r σ hr (by rw[e];rfl),jh fun k l r σ hr e=>hn (.fr _ k) l r σ hr (by rw[e];rfl)]
 |root h hx hy=>exact fun hn=>absurd hx (hn .hole _ _ _ h)
theorem Nf.st{x y:T}(h:St R x y)(hn:Nf R x):y=x:=by
 induction h with
 |nil x=>rfl
 |cons h k ih=>
  obtain⟨n,h⟩:=h;have e:=Nf.pa h hn;subst e;exact ih hn
theorem OA(hR:zN R){x y z:T}(h:St R x y)(k:St R x z)(hy:Nf R y)(hz:Nf R z):y=z:=by
 obtain⟨w,p,q⟩:=h.Zf hR k;rw[<-Nf.st p hy,Nf.st q hz]
end Hu
namespace Tm
def lA(a:gB)(x:Int):Nat:=if x<0 then 0 else(a.getD x.toNat 0).toNat
def Eh(a:gB)(x:Int):Prop:= -24<=x/\x<a.length
instance(a:gB)(x:Int):Decidable (Eh a x):=by unfold Eh;infer_instance
def skip(a:gB):gB->Nat->Option gB
 |t,0=>some t
 |[],_+1=>none
 |x::t,k+1=>if Eh a x then skip a t (k+lA a x)else none
def Wf(a:gB)(k:Nat)(t:gB):Prop:=skip a t k=some []
instance(a:gB)(k:Nat)(t:gB):Decidable (Wf a k t):=by unfold Wf;infer_instance
theorem sC(a t:gB):skip a t 0=some t:=by cases t<;>simp[skip]
theorem tW(a t:gB)(x:Int)(k:Nat):skip a (x::t) (k+1)=if Eh a x then skip a t (k+lA a x)else none:=by simp[skip]
theorem Hl(a:gB)(k:Nat):skip a [] (k+1)=none:=by simp[skip]
theorem Hj{a:gB}(s:gB):∀{t r:gB}{k:Nat},skip a t k=some r->skip a (t++s) k=some (r++s)
 |t,r,0,h=>by rw[sC]at h⊢;cases h;rfl
 |[],r,k+1,h=>by simp[skip]at h
 |x::t,r,k+1,h=>by
  rw[bC];rw[tW]at h⊢;split at h
  ·rename_i hx;rw[ah hx];exact Hj s h
  ·cases h
theorem DK{a:gB}(j:Nat):∀{t:gB}{k:Nat},skip a t (k+j)=(skip a t k).bind fun r=>skip a r j
 |t,0=>by simp[sC]
 |[],k+1=>by rw[show k+1+j=(k+j)+1 by omega];simp[skip]
 |x::t,k+1=>by
  rw[show k+1+j=(k+j)+1 by omega,tW,tW];split
  ·rw[show k+j+lA a x=(k+lA a x)+j by omega];exact DK j
  ·rfl
theorem Ai{a:gB}:∀{t r:gB}{k:Nat},skip a t k=some r->∃u,t=u++r/\Wf a k u
 |t,r,0,h=>by rw[sC]at h;cases h;exact⟨[],rfl,sC _ _⟩
 |[],r,k+1,h=>by simp[skip]at h
 |x::t,r,k+1,h=>by
  rw[tW]at h;split at h
  ·rename_i hx;obtain⟨u,rfl,h2⟩:=Ai h;exact⟨x::u,rfl,by unfold Wf;rw[tW,ah hx];exact h2⟩
  ·cases h
theorem Wf.skip{a u:gB}{k:Nat}(h:Wf a k u)(s:gB):skip a (u++s) k=some s:=Hj s h
theorem Wf.app{a u v:gB}{k j:Nat}(h:Wf a k u)(h':Wf a j v):Wf a (k+j) (u++v):=by unfold Wf;rw[DK,h.skip];exact h'
theorem Wf.nil{a:gB}:Wf a 0 []:=sC _ _
theorem Wf.zero{a t:gB}(h:Wf a 0 t):t=[]:=by unfold Wf at h;rw[sC]at h;exact dw h
theorem Wf.je{a t:gB}{x:Int}{k:Nat}:Wf a (k+1) (x::t)<->Eh a x/\Wf a (k+lA a x) t:=by
 unfold Wf;rw[tW];split<;>simp_all
theorem Wf.pos{a t:gB}{k:Nat}(h:Wf a (k+1) t):∃x r,t=x::r/\Eh a x/\Wf a (k+lA a x) r:=by
 cases t with
 |nil=>simp[Wf,Tm.skip]at h
 |cons x r=>exact⟨x,r,rfl,Wf.je.1 h⟩
theorem Wf.split{a t:gB}{k j:Nat}(h:Wf a (k+j) t):∃u v,t=u++v/\Wf a k u/\Wf a j v:=by
 unfold Wf at h;rw[DK]at h;obtain⟨r,h1,h2⟩:=aq.1 h;obtain⟨u,rfl,h3⟩:=Ai h1;exact⟨u,r,rfl,h3,h2⟩
theorem Wf.uniq{a u u' v v':gB}{k:Nat}(h:Wf a k u)(h':Wf a k u')(e:u++v=u'++v'):u=u'/\v=v':=by
 have h1:=h.skip v;have h2:=h'.skip v';rw[e,h2]at h1;cases dw h1;exact⟨List.append_cancel_right e,rfl⟩
theorem Wf.all{a:gB}:∀{t:gB}{k:Nat},Wf a k t->∀x∈t,Eh a x
 |[],_,_=>by simp
 |y::t,0,h=>by have:=h.zero;cases this
 |y::t,k+1,h=>by
  obtain⟨h1,h2⟩:=Wf.je.1 h;intro x hx;rcases bu.1 hx with rfl|hx
  ·exact h1
  ·exact h2.all x hx
theorem Wf.len{a:gB}:∀{t:gB}{k:Nat},Wf a k t->k<=t.length
 |t,0,_=>by omega
 |[],k+1,h=>by simp[Wf,Tm.skip]at h
 |y::t,k+1,h=>by
  obtain⟨h1,h2⟩:=Wf.je.1 h;have:=h2.len;simp;omega
theorem Wf.place{a:gB}:∀{t:gB}{k i:Nat},Wf a k t->i<t.length->∃p u s,t=p++(u++s)/\p.length=i/\Wf a 1 u
 |[],_,_,_,hi=>by simp at hi
 |y::t,0,_,h,_=>by have:=h.zero;cases this
 |y::t,k+1,0,h,_=>by
  rw[show k+1=1+k by omega]at h;obtain⟨u,v,e,h1,_⟩:=h.split;exact⟨[],u,v,e,rfl,h1⟩
 |y::t,k+1,i+1,h,hi=>by
  obtain⟨p,u,s,rfl,h2,h3⟩:=(Wf.je.1 h).2.place (i:=i) (by simpa using hi);exact⟨y::p,u,s,rfl,by simp[h2],h3⟩
theorem Wf.put{a u v s:gB}(hu:Wf a 1 u)(hv:Wf a 1 v):∀{p:gB}{k:Nat},Wf a k (p++(u++s))->Wf a k (p++(v++s))
 |[],0,h=>by
  have:=h.zero;have:=hu.len
  simp_all
 |[],k+1,h=>by
  rw[bA]at h⊢;rw[show k+1=1+k by omega]at h⊢;obtain⟨u',v',e,h1,h2⟩:=h.split;obtain⟨rfl,rfl⟩:=hu.uniq h1 e;exact hv.app h2
 |y::p,0,h=>by have:=h.zero;cases this
 |y::p,k+1,h=>by
  rw[bC]at h⊢;obtain⟨h1,h2⟩:=Wf.je.1 h;exact Wf.je.2 ⟨h1,Wf.put hu hv h2⟩
def sub(σ:Int->gB)(t:gB):gB:=t.flatMap fun x=>if x<0 then σ x else [x]
theorem i_(σ:Int->gB)(x:Int)(t:gB):sub σ (x::t)=(if x<0 then σ x else [x])++sub σ t:=by simp[sub]
theorem kN(σ:Int->gB)(s t:gB):sub σ (s++t)=sub σ s++sub σ t:=by simp[sub]
theorem sub_congr{σ τ:Int->gB}{t:gB}(h:∀x∈t,x<0->σ x=τ x):sub σ t=sub τ t:=by
 induction t with
 |nil=>rfl
 |cons x t ih=>
  rw[i_,i_,ih fun y hy=>h y (by simp[hy])];by_cases hx:x<0
  ·rw[ah hx,ah hx,h x (by simp) hx]
  ·rw[aj hx,aj hx]
theorem Wf.sub{a:gB}{σ:Int->gB}:∀{t:gB}{k:Nat},Wf a k t->(∀x∈t,x<0->Wf a 1 (σ x))->Wf a k (Tm.sub σ t)
 |[],k,h,_=>by simpa[Tm.sub]using h
 |y::t,0,h,_=>by have:=h.zero;cases this
 |y::t,k+1,h,hs=>by
  obtain⟨h1,h2⟩:=Wf.je.1 h;rw[i_];have ih:=h2.sub fun x hx=>hs x (by simp[hx])
  by_cases hy:y<0
  ·rw[ah hy,show k+1=1+k by omega];refine(hs y (by simp) hy).app ?_;simpa[lA,hy]using ih
  ·rw[aj hy];exact Wf.je.2 ⟨h1,ih⟩
abbrev Bd:=List gB
def kE(b:Bd)(n:Int):gB:=b.getD (-1-n).toNat []
def iA(b:Bd)(n:Int)(u:gB):Bd:=b.set (-1-n).toNat u
def uW(a:gB):gB->gB->Bd->Option Bd
 |[],_,b=>some b
 |n::p,t,b=>
  if n<0 then match skip a t 1 with
   |none=>none
   |some r=>
    let u:=t.take (t.length-r.length)
    if kE b n=[]then uW a p r (iA b n u)else if kE b n=u then uW a p r b else none
  else match t with
   |[]=>none
   |y::t=>if y=n then uW a p t b else none
theorem AN(a t:gB)(b:Bd):uW a [] t b=some b:=by simp[uW]
theorem Wf.ne{a u:gB}(h:Wf a 1 u):u≠[]:=by have:=h.len;intro e;subst e;simp at this
theorem Ct{a p t:gB}{n y:Int}{b:Bd}(hn:¬n<0):uW a (n::p) (y::t) b=if y=n then uW a p t b else none:=by simp[uW,hn]
theorem Fe{a p u r:gB}{n:Int}{b:Bd}(hn:n<0)(hu:Wf a 1 u):uW a (n::p) (u++r) b=
 if kE b n=[]then uW a p r (iA b n u)else if kE b n=u then uW a p r b else none:=by
 simp[uW,hn,hu.skip]
theorem uU{b:Bd}{n m:Int}{u:gB}(hn:n<0)(hl: -1-n<b.length)(hm:m<0):kE (iA b n u) m=if m=n then u else kE b m:=by
 unfold kE iA;rw[List.getD_eq_getElem?_getD,List.getD_eq_getElem?_getD,dQ];by_cases h:m=n
 ·subst h;rw[ah rfl,ah rfl,ah h_];rfl
 ·rw[aj h,aj h_]
theorem uY{a:gB}:∀{p t:gB}{b b':Bd}{k:Nat},Wf a k p->Wf a k t->b.length=24->uW a p t b=some b'->
 t=sub (kE b') p/\b'.length=24/\(∀n,n<0->kE b n≠[]->kE b' n=kE b n)/\(∀n∈p,n<0->Wf a 1 (kE b' n)\/kE b n=kE b' n/\kE b n≠[])/\
 (∀n,n<0->n∉p->kE b' n=kE b n)
 |[],t,b,b',k,hp,ht,hb,h=>by
  rw[AN]at h;cases h;cases k with
  |zero=>have:=ht.zero;subst this;exact⟨rfl,hb,fun _ _ _=>rfl,by simp,fun _ _ _=>rfl⟩
  |succ k=>simp[Wf,Tm.skip]at hp
 |n::p,t,b,b',0,hp,ht,hb,h=>by have:=hp.zero;cases this
 |n::p,t,b,b',k+1,hp,ht,hb,h=>by
  obtain⟨hx,hp⟩:=Wf.je.1 hp;by_cases hn:n<0
  ·rw[show k+1=1+k by omega]at ht;obtain⟨u,r,rfl,hu,hr⟩:=ht.split;rw[Fe hn hu]at h;have ha:lA a n=0:=by simp[lA,hn]
   rw[ha,dy]at hp;have hl: -1-n<b.length:=by have:=hx.1;omega
   split at h
   ·rename_i h0;obtain⟨h1,h2,h3,h4,h5⟩:=uY hp hr (by simpa[iA]using hb) h;have hbn:kE b' n=u:=by rw[h3 n hn (by rw[uU hn hl hn,ah rfl];exact hu.ne),uU hn hl hn,ah rfl]
    refine⟨by rw[i_,ah hn,hbn,<-h1],h2,fun m hm hne=>?_,fun m hm hm0=>?_,fun m hm hmp=>?_⟩
    ·by_cases hmn:m=n
     ·subst hmn;exact absurd h0 hne
     ·have:=uU (u:=u) hn hl hm;rw[aj hmn]at this;rw[h3 m hm (by rw[this];exact hne),this]
    ·by_cases hmn:m=n
     ·subst hmn;rw[hbn];exact .inl hu
     ·have:=uU (u:=u) hn hl hm0;rw[aj hmn]at this;rcases bu.1 hm with e|hm
      ·exact absurd e hmn
      ·rw[<-this];exact h4 m hm hm0
    ·have hmn:m≠n:=fun e=>hmp (by simp[e])
     have:=uU (u:=u) hn hl hm;rw[aj hmn]at this;rw[h5 m hm fun hx=>hmp (by simp[hx]),this]
   ·rename_i h0;split at h
    ·rename_i h00;obtain⟨h1,h2,h3,h4,h5⟩:=uY hp hr hb h;have hbn:kE b' n=u:=by rw[h3 n hn h0,h00]
     refine⟨by rw[i_,ah hn,hbn,<-h1],h2,h3,fun m hm hm0=>?_,fun m hm hmp=>?_⟩
     ·by_cases hmn:m=n
      ·subst hmn;rw[hbn];exact .inl hu
      ·rcases bu.1 hm with e|hm
       ·exact absurd e hmn
       ·exact h4 m hm hm0
     ·exact h5 m hm fun hx=>hmp (by simp[hx])
    ·cases h
  ·obtain⟨y,t,rfl,hy,ht⟩:=ht.pos;rw[Ct hn]at h;split at h
   ·rename_i e;subst e;obtain⟨h1,h2,h3,h4,h5⟩:=uY hp ht hb h;refine⟨by rw[i_,aj hn,dN,<-h1],h2,h3,fun m hm hm0=>?_,fun m hm hmp=>?_⟩
    ·rcases bu.1 hm with e|hm
     ·omega
     ·exact h4 m hm hm0
    ·exact h5 m hm fun hx=>hmp (by simp[hx])
   ·cases h
theorem qP{a:gB}{σ:Int->gB}:∀{p:gB}{b:Bd}{k:Nat},Wf a k p->b.length=24->(∀n∈p,n<0->Wf a 1 (σ n))->(∀n∈p,n<0->kE b n=[]\/kE b n=σ n)->
 ∃b',uW a p (sub σ p) b=some b'/\b'.length=24/\(∀n∈p,n<0->kE b' n=σ n)/\(∀n,n<0->n∉p->kE b' n=kE b n)
 |[],b,k,hp,hb,hs,hc=>⟨b,AN _ _ _,hb,by simp,fun _ _ _=>rfl⟩
 |n::p,b,0,hp,hb,hs,hc=>by have:=hp.zero;cases this
 |n::p,b,k+1,hp,hb,hs,hc=>by
  obtain⟨hx,hp⟩:=Wf.je.1 hp;by_cases hn:n<0
  ·have hu:=hs n (by simp) hn;have ha:lA a n=0:=by simp[lA,hn]
   rw[ha,dy]at hp;have hl: -1-n<b.length:=by have:=hx.1;omega
   rw[i_,ah hn,Fe hn hu];by_cases h0:kE b n=[]
   ·rw[ah h0];have hg:∀m,m<0->kE (iA b n (σ n)) m=if m=n then σ n else kE b m:=fun m hm=>uU hn hl hm
    obtain⟨b',h1,h2,h3,h4⟩:=qP (σ:=σ) (b:=iA b n (σ n)) hp (by simpa[iA]using hb) (fun m hm hm0=>hs m (by simp[hm]) hm0) fun m hm hm0=>by
     rw[hg m hm0];by_cases hmn:m=n
     ·subst hmn;rw[ah rfl];exact .inr rfl
     ·rw[aj hmn];exact hc m (by simp[hm]) hm0
    refine⟨b',h1,h2,fun m hm hm0=>?_,fun m hm hmp=>?_⟩
    ·by_cases hmp:m∈p
     ·exact h3 m hmp hm0
     ·rcases bu.1 hm with rfl|hm
      ·rw[h4 m hm0 hmp,hg m hm0,ah rfl]
      ·exact absurd hm hmp
    ·have hmn:m≠n:=fun e=>hmp (by simp[e])
     rw[h4 m hm fun hx=>hmp (by simp[hx]),hg m hm,aj hmn]
   ·have hbn:kE b n=σ n:=(hc n (by simp) hn).resolve_left h0;rw[aj h0,ah hbn];obtain⟨b',h1,h2,h3,h4⟩:=qP hp hb (fun m hm hm0=>hs m (by simp[hm]) hm0) fun m hm hm0=>hc m (by simp[hm]) hm0
    refine⟨b',h1,h2,fun m hm hm0=>?_,fun m hm hmp=>h4 m hm fun hx=>hmp (by simp[hx])⟩;by_cases hmp:m∈p
    ·exact h3 m hmp hm0
    ·rcases bu.1 hm with rfl|hm
     ·rw[h4 m hm0 hmp,hbn]
     ·exact absurd hm hmp
  ·rw[i_,aj hn,dN,Ct hn,ah rfl];obtain⟨b',h1,h2,h3,h4⟩:=qP hp hb (fun m hm hm0=>hs m (by simp[hm]) hm0) fun m hm hm0=>hc m (by simp[hm]) hm0
   refine⟨b',h1,h2,fun m hm hm0=>?_,fun m hm hmp=>h4 m hm fun hx=>hmp (by simp[hx])⟩;rcases bu.1 hm with rfl|hm
   ·exact absurd hm0 hn
   ·exact h3 m hm hm0
def jQ:Bd:=List.replicate 24 []
theorem uV(n:Int):kE jQ n=[]:=by
 unfold kE jQ;rw[List.getD_eq_getElem?_getD,cP];split<;>rfl
def Mv(a f o t t':gB)(i:Nat):Prop:=∃p s σ,p.length=i/\t=p++(sub σ f++s)/\t'=p++(sub σ o++s)/\∀x,x<0->Wf a 1 (σ x)
theorem Mv.wf{a f o t t':gB}{i:Nat}(h:Mv a f o t t' i)(hf:Wf a 1 f)(ho:Wf a 1 o)(ht:Wf a 1 t):Wf a 1 t':=by
 obtain⟨p,s,σ,h1,rfl,rfl,h4⟩:=h;exact Wf.put (hf.sub fun x _ hx=>h4 x hx) (ho.sub fun x _ hx=>h4 x hx) ht
theorem Wf.var{a:gB}:Wf a 1 [-1]:=Wf.je.2 ⟨⟨h_,h_⟩,by simp[lA];exact Wf.nil⟩
theorem LO{a f o p s u u':gB}{b b':Bd}(hf:Wf a 1 f)(ho:Wf a 1 o)(hu:Wf a 1 u)(hu':Wf a 1 u')(h1:uW a f u jQ=some b)(h2:uW a o u' b=some b'):
 Mv a f o (p++(u++s)) (p++(u'++s)) p.length:=by
 obtain⟨e1,l1,k1,w1,n1⟩:=uY hf hu (by simp[jQ]) h1;obtain⟨e2,l2,k2,w2,n2⟩:=uY ho hu' l1 h2;have hw1:∀n∈f,n<0->Wf a 1 (kE b n):=fun n hn h0=>by
  rcases w1 n hn h0 with h|h
  ·exact h
  ·exact absurd (uV n) h.2
 let σ:Int->gB:=fun x=>if Wf a 1 (kE b' x)then kE b' x else [-1]
 have hσ:∀x,x<0->Wf a 1 (σ x):=fun x _=>by
  by_cases h:Wf a 1 (kE b' x)
  ·simp only[σ,ah h];exact h
  ·simp only[σ,aj h];exact Wf.var
 have hfx:∀n∈f,n<0->σ n=kE b n:=fun n hn h0=>by
  have h3:=hw1 n hn h0;have h4:=k2 n h0 h3.ne;simp only[σ,h4,ah h3]
 have hox:∀n∈o,n<0->σ n=kE b' n:=fun n hn h0=>by
  have:Wf a 1 (kE b' n):=by
   rcases w2 n hn h0 with h|⟨h,hne⟩
   ·exact h
   ·by_cases hn':n∈f
    ·rw[<-h];exact hw1 n hn' h0
    ·exact absurd (by rw[n1 n h0 hn',uV]) hne
  simp only[σ,ah this]
 refine⟨p,s,σ,rfl,?_,?_,hσ⟩
 ·rw[sub_congr hfx,<-e1]
 ·rw[sub_congr hox,<-e2]
theorem LF{a f o p s:gB}{σ:Int->gB}(hf:Wf a 1 f)(ho:Wf a 1 o)(hσ:∀x,x<0->Wf a 1 (σ x)):
 ∃b b',uW a f (sub σ f) jQ=some b/\uW a o (sub σ o) b=some b':=by
 obtain⟨b,h1,h2,h3,h4⟩:=qP (σ:=σ) (b:=jQ) hf (by simp[jQ]) (fun n _ hn=>hσ n hn) fun n _ _=>.inl (uV n)
 obtain⟨b',h5,_⟩:=qP (σ:=σ) (b:=b) ho h2 (fun n _ hn=>hσ n hn) fun n _ hn=>by
  by_cases hnf:n∈f
  ·exact .inr (h3 n hnf hn)
  ·exact .inl (by rw[h4 n hn hnf,uV])
 exact⟨b,b',h1,h5⟩
def iS(a t:gB)(i:Nat):gB:=match skip a (t.drop i) 1 with
 |some r=>(t.drop i).take ((t.drop i).length-r.length)
 |none=>[]
theorem xN{a p u s:gB}(hu:Wf a 1 u):iS a (p++(u++s)) p.length=u:=by
 unfold iS;rw[bT,hu.skip];simp
def G5(a t:gB)(i:Nat)(v:gB):gB:=t.take i++(v++t.drop (i+(iS a t i).length))
theorem A0{a p u s v:gB}(hu:Wf a 1 u):G5 a (p++(u++s)) p.length v=p++(v++s):=by
 unfold G5;rw[xN hu,dS,<-List.drop_drop,bT,bT]
def Y2(a f o t t':gB)(i:Nat):Bool:=G5 a t i (iS a t' i)==t'&&((uW a f (iS a t i) jQ).bind fun b=>uW a o (iS a t' i) b).isSome
theorem J_{a f o t t':gB}{i:Nat}(hf:Wf a 1 f)(ho:Wf a 1 o)(ht:Wf a 1 t)(ht':Wf a 1 t')(hi:i<t.length)(hi':i<t'.length):Y2 a f o t t' i=true<->Mv a f o t t' i:=by
 constructor
 ·intro h;simp only[Y2,a_,bw]at h;obtain⟨h1,h2⟩:=h;obtain⟨p,u,s,rfl,rfl,hu⟩:=ht.place hi;obtain⟨p',u',s',rfl,hp,hu'⟩:=ht'.place hi';rw[<-hp,xN hu',hp,A0 hu]at h1;rw[<-hp,xN hu',hp,xN hu]at h2;obtain⟨b,hb⟩:=Option.isSome_iff_exists.1 h2;obtain⟨b0,h3,h4⟩:=aq.1 hb;rw[<-h1];exact LO hf ho hu hu' h3 h4
 ·rintro⟨p,s,σ,rfl,rfl,rfl,hσ⟩;have hu:Wf a 1 (sub σ f):=hf.sub fun x _ hx=>hσ x hx
  have hu':Wf a 1 (sub σ o):=ho.sub fun x _ hx=>hσ x hx
  simp only[Y2,xN hu,xN hu',A0 hu,cA,bP];obtain⟨b,b',h1,h2⟩:=LF (p:=p) (s:=s) hf ho hσ;rw[h1,aa,h2];rfl
def sig(b:Bd)(n:Int):gB:=if kE b n=[]then [n]else kE b n
def DP(a l r t:gB)(i:Nat):Option gB:=(uW a l (iS a t i) jQ).bind fun b=>
 if(sub (sig b) r).length<=60/\(G5 a t i (sub (sig b) r)).length<=60 then some (G5 a t i (sub (sig b) r))else none
theorem DQ{a l r t t':gB}{i:Nat}(hl:Wf a 1 l)(hr:Wf a 1 r)(ht:Wf a 1 t)(hi:i<t.length)(hv:∀n∈r,n<0->n∈l)(h:DP a l r t i=some t'):
 Mv a l r t t' i/\t'.length<=60:=by
 unfold DP at h;obtain⟨b,h1,h2⟩:=aq.1 h;split at h2
 ·rename_i hc;cases h2;refine⟨?_,hc.2⟩;obtain⟨p,u,s,rfl,rfl,hu⟩:=ht.place hi;rw[xN hu]at h1;rw[A0 hu];obtain⟨e1,l1,k1,w1,n1⟩:=uY hl hu (by simp[jQ]) h1;have hw1:∀n∈l,n<0->Wf a 1 (kE b n):=fun n hn h0=>by
   rcases w1 n hn h0 with h|h
   ·exact h
   ·exact absurd (uV n) h.2
  let σ:Int->gB:=fun x=>if Wf a 1 (kE b x)then kE b x else [-1]
  have hσ:∀x,x<0->Wf a 1 (σ x):=fun x _=>by
   by_cases h:Wf a 1 (kE b x)
   ·simp only[σ,ah h];exact h
   ·simp only[σ,aj h];exact Wf.var
  have hx:∀n∈l,n<0->σ n=kE b n:=fun n hn h0=>by simp only[σ,ah (hw1 n hn h0)]
  refine⟨p,s,σ,rfl,?_,?_,hσ⟩
  ·rw[sub_congr hx,<-e1]
  ·rw[sub_congr fun n hn h0=>?_];rw[hx n (hv n hn h0) h0];unfold sig;rw[aj (hw1 n (hv n hn h0) h0).ne]
 ·cases h2
end Tm
namespace Un
open Tm
def xZ(a:gB):gB->Nat->Option gB
 |t,0=>some t
 |[],_+1=>none
 |x::t,k+1=>if x<a.length then xZ a t (k+lA a x)else none
def Wv(a:gB)(k:Nat)(t:gB):Prop:=xZ a t k=some []
theorem vt(a t:gB):xZ a t 0=some t:=by cases t<;>simp[xZ]
theorem vp(a t:gB)(x:Int)(k:Nat):xZ a (x::t) (k+1)=if x<a.length then xZ a t (k+lA a x)else none:=by simp[xZ]
theorem Ky{a:gB}(s:gB):∀{t r:gB}{k:Nat},xZ a t k=some r->xZ a (t++s) k=some (r++s)
 |t,r,0,h=>by rw[vt]at h⊢;cases h;rfl
 |[],r,k+1,h=>by simp[xZ]at h
 |x::t,r,k+1,h=>by
  rw[bC];rw[vp]at h⊢;split at h
  ·rename_i hx;rw[ah hx];exact Ky s h
  ·cases h
theorem Fy{a:gB}(j:Nat):∀{t:gB}{k:Nat},xZ a t (k+j)=(xZ a t k).bind fun r=>xZ a r j
 |t,0=>by simp[vt]
 |[],k+1=>by rw[show k+1+j=(k+j)+1 by omega];simp[xZ]
 |x::t,k+1=>by
  rw[show k+1+j=(k+j)+1 by omega,vp,vp];split
  ·rw[show k+j+lA a x=(k+lA a x)+j by omega];exact Fy j
  ·rfl
theorem EM{a:gB}:∀{t r:gB}{k:Nat},xZ a t k=some r->∃u,t=u++r/\Wv a k u
 |t,r,0,h=>by rw[vt]at h;cases h;exact⟨[],rfl,vt _ _⟩
 |[],r,k+1,h=>by simp[xZ]at h
 |x::t,r,k+1,h=>by
  rw[vp]at h;split at h
  ·rename_i hx;obtain⟨u,rfl,h2⟩:=EM h;exact⟨x::u,rfl,by unfold Wv;rw[vp,ah hx];exact h2⟩
  ·cases h
theorem Wv.skip{a u:gB}{k:Nat}(h:Wv a k u)(s:gB):xZ a (u++s) k=some s:=Ky s h
theorem Wv.app{a u v:gB}{k j:Nat}(h:Wv a k u)(h':Wv a j v):Wv a (k+j) (u++v):=by unfold Wv;rw[Fy,h.skip];exact h'
theorem Wv.nil{a:gB}:Wv a 0 []:=vt _ _
theorem Wv.zero{a t:gB}(h:Wv a 0 t):t=[]:=by unfold Wv at h;rw[vt]at h;exact dw h
theorem Wv.je{a t:gB}{x:Int}{k:Nat}:Wv a (k+1) (x::t)<->x<a.length/\Wv a (k+lA a x) t:=by
 unfold Wv;rw[vp];split
 ·rename_i h;exact⟨fun e=>⟨h,e⟩,fun e=>e.2⟩
 ·rename_i h;exact⟨fun e=>(by cases e),fun e=>absurd e.1 h⟩
theorem Wv.pos{a t:gB}{k:Nat}(h:Wv a (k+1) t):∃x r,t=x::r/\x<a.length/\Wv a (k+lA a x) r:=by
 cases t with
 |nil=>simp[Wv,xZ]at h
 |cons x r=>exact⟨x,r,rfl,Wv.je.1 h⟩
theorem Wv.split{a t:gB}{k j:Nat}(h:Wv a (k+j) t):∃u v,t=u++v/\Wv a k u/\Wv a j v:=by
 unfold Wv at h;rw[Fy]at h;obtain⟨r,h1,h2⟩:=aq.1 h;obtain⟨u,rfl,h3⟩:=EM h1;exact⟨u,r,rfl,h3,h2⟩
theorem Wv.uniq{a u u' v v':gB}{k:Nat}(h:Wv a k u)(h':Wv a k u')(e:u++v=u'++v'):u=u'/\v=v':=by
 have h1:=h.skip v;have h2:=h'.skip v';rw[e,h2]at h1;cases dw h1;exact⟨List.append_cancel_right e,rfl⟩
theorem Wv.len{a:gB}:∀{t:gB}{k:Nat},Wv a k t->k<=t.length
 |t,0,_=>by omega
 |[],k+1,h=>by simp[Wv,xZ]at h
 |y::t,k+1,h=>by
  obtain⟨h1,h2⟩:=Wv.je.1 h;have:=h2.len;simp;omega
theorem Wv.ne{a u:gB}(h:Wv a 1 u):u≠[]:=by have:=h.len;intro e;subst e;simp at this
theorem uO{a:gB}{x:Int}(h:x<0):lA a x=0:=by unfold lA;rw[ah h]
theorem Wv.var{a:gB}{x:Int}(h:x<0):Wv a 1 [x]:=Wv.je.2 ⟨h_,by rw[uO h];exact Wv.nil⟩
theorem Wv.Sh{a t:gB}{x:Int}(h:Wv a 1 (x::t))(hx:x<0):t=[]:=by
 obtain⟨_,h2⟩:=Wv.je.1 h;rw[uO hx]at h2;exact h2.zero
theorem Wv.sub{a:gB}{σ:Int->gB}:∀{t:gB}{k:Nat},Wv a k t->(∀x∈t,x<0->Wv a 1 (σ x))->Wv a k (Tm.sub σ t)
 |t,0,h,_=>by rw[h.zero];exact Wv.nil
 |[],k+1,h,_=>by simp[Wv,xZ]at h
 |x::t,k+1,h,hs=>by
  obtain⟨h1,h2⟩:=Wv.je.1 h;rw[i_];have ih:=h2.sub fun y hy=>hs y (aP _ hy)
  by_cases hx:x<0
  ·rw[ah hx];rw[uO hx]at ih;have:=(hs x aS hx).app ih;rwa [cS]at this
  ·rw[aj hx];exact Wv.je.2 ⟨h1,ih⟩
abbrev Sb:=Int->gB
theorem sub_sub(σ τ:Sb):∀t:gB,sub τ (sub σ t)=sub (fun x=>sub τ (σ x)) t
 |[]=>rfl
 |x::t=>by
  rw[i_,i_,kN,sub_sub σ τ t];by_cases hx:x<0
  ·rw[ah hx,ah hx]
  ·rw[aj hx,aj hx];simp[sub,hx]
theorem Pc{σ:Sb}:∀{t:gB},(∀x∈t,x<0->σ x=[x])->sub σ t=t
 |[],_=>rfl
 |x::t,h=>by
  rw[i_,Pc fun y hy=>h y (aP _ hy)];by_cases hx:x<0
  ·rw[ah hx,h x aS hx];rfl
  ·rw[aj hx];rfl
theorem sub_one{σ:Sb}{x:Int}(hx:x<0):sub σ [x]=σ x:=by simp[sub,hx]
theorem oo{σ:Sb}{t:gB}{y:Int}:y∈sub σ t<->∃x∈t,(x<0/\y∈σ x)\/(¬x<0/\y=x):=by
 unfold sub;rw[fj];constructor
 ·rintro⟨x,hx,hy⟩;split at hy
  ·rename_i h;exact⟨x,hx,.inl ⟨h,hy⟩⟩
  ·rename_i h;exact⟨x,hx,.inr ⟨h,aK.1 hy⟩⟩
 ·rintro⟨x,hx,⟨h,hy⟩|⟨h,rfl⟩⟩
  ·exact⟨x,hx,by rw[ah h];exact hy⟩
  ·exact⟨y,hx,by rw[aj h];exact aK.2 rfl⟩
theorem Oe{σ:Sb}{x:Int}(hx:x<0)(hp:∀y,y<0->1<=(σ y).length):∀{t:gB},x∈t->(σ x).length+(t.length-1)<=(sub σ t).length
 |[],h=>by cases h
 |y::t,h=>by
  have hall:∀t:gB,t.length<=(sub σ t).length:=fun t=>by
   induction t with
   |nil=>simp[sub]
   |cons z t ih=>
    rw[i_,ai,aJ];split
    ·rename_i hz;have:=hp z hz;omega
    ·simp;omega
  rw[i_,ai];rcases bu.1 h with rfl|h
  ·rw[ah hx];have:=hall t;simp;omega
  ·have ih:=Oe hx hp h;have h1:1<=t.length:=fq h;split
   ·rename_i hy;have:=hp y hy;simp;omega
   ·simp;omega
structure Pl where
 n:Nat
 P:List gB
structure Nb(N:Pl)(t:gB):Prop where
 le:∀y∈t, -(N.n:Int)<=y
 mem:t∈N.P
instance{N:Pl}{t:gB}:CoeFun (Nb N t) (fun _=>∀y∈t, -(N.n:Int)<=y):=⟨Nb.le⟩
def bg(b:List gB)(n:Int):gB:=b.getD (-1-n).toNat []
def bs(b:List gB)(n:Int)(u:gB):List gB:=b.set (-1-n).toNat u
theorem SD{b:List gB}{n m:Int}{u:gB}(hn:n<0)(hl: -1-n<b.length)(hm:m<0):bg (bs b n u) m=if m=n then u else bg b m:=by
 unfold bg bs;rw[List.getD_eq_getElem?_getD,List.getD_eq_getElem?_getD,dQ];by_cases h:m=n
 ·subst h;rw[ah rfl,ah rfl,ah h_];rfl
 ·rw[aj h,aj h_]
structure Bn(a:gB)(N:Pl)(b:List gB)(σ:Sb)(r:Int->Nat):Prop where
 len:b.length=N.n
 tm:∀x,x<0->bg b x≠[]->Wv a 1 (bg b x)/\Nb N (bg b x)
 inr:∀x,x<0->bg b x≠[]-> -(N.n:Int)<=x
 val:∀x,x<0->bg b x≠[]->σ x=sub σ (bg b x)
 Mz:∀x,x<0->bg b x=[]->σ x=[x]
 G8:∀x,x<0->∀y∈σ x,y<0->bg b y=[]
 wv:∀x,x<0->Wv a 1 (σ x)
 CT:∀x,x<0-> -(N.n:Int)<=x->∀y∈σ x, -(N.n:Int)<=y
 rk:∀x,x<0->bg b x≠[]->∀y∈bg b x,y<0->bg b y≠[]->r y<r x
def vC(a:gB)(b:List gB)(τ:Sb):Prop:=(∀x,x<0->Wv a 1 (τ x))/\∀x,x<0->bg b x≠[]->τ x=sub τ (bg b x)
theorem Bn.self{a:gB}{N:Pl}{b:List gB}{σ:Sb}{r:Int->Nat}(h:Bn a N b σ r):vC a b σ:=⟨h.wv,h.val⟩
theorem vC.JF{a:gB}{N:Pl}{b:List gB}{σ τ:Sb}{r:Int->Nat}(h:Bn a N b σ r)(hτ:vC a b τ):∀(n:Nat){x:Int},x<0->r x<n->τ x=sub τ (σ x)
 |0,x,_,hr=>by omega
 |n+1,x,hx,hr=>by
  by_cases hb:bg b x=[]
  ·rw[h.Mz x hx hb,sub_one hx]
  ·rw[hτ.2 x hx hb,h.val x hx hb,sub_sub];refine sub_congr fun y hy hy0=>?_
   by_cases hb':bg b y=[]
   ·rw[h.Mz y hy0 hb',sub_one hy0]
   ·exact vC.JF h hτ n hy0 (by have:=h.rk x hx hb y hy hy0 hb';omega)
theorem vC.abs{a:gB}{N:Pl}{b:List gB}{σ τ:Sb}{r:Int->Nat}(h:Bn a N b σ r)(hτ:vC a b τ){x:Int}(hx:x<0):τ x=sub τ (σ x):=vC.JF h hτ (r x+1) hx (cZ _)
theorem vC.MN{a:gB}{N:Pl}{b:List gB}{σ τ:Sb}{r:Int->Nat}(h:Bn a N b σ r)(hτ:vC a b τ)(t:gB):sub τ (sub σ t)=sub τ t:=by
 rw[sub_sub];exact sub_congr fun x _ hx=>(hτ.abs h hx).symm
theorem Bn.none(a:gB)(N:Pl):Bn a N (List.replicate N.n []) (fun x=>[x]) (fun _=>0):=by
 have e:∀x:Int,bg (List.replicate N.n []) x=[]:=fun x=>by
  unfold bg;rw[List.getD_eq_getElem?_getD,cP];split<;>rfl
 refine⟨by simp,fun x _ h=>absurd (e x) h,fun x _ h=>absurd (e x) h,fun x _ h=>absurd (e x) h,fun _ _ _=>rfl,fun x hx y hy hy0=>e y,fun x hx=>Wv.var hx,fun x hx h y hy=>?_,fun x _ h=>absurd (e x) h⟩;rw[aK.1 hy];exact h
def DE(v:Int)(u:gB):Sb:=fun x=>if x=v then u else [x]
theorem Vo{v:Int}{u:gB}:DE v u v=u:=by simp[DE]
theorem Kp{v x:Int}{u:gB}(h:x≠v):DE v u x=[x]:=by simp[DE,h]
theorem Pd{v:Int}{u t:gB}(h:v∉t):sub (DE v u) t=t:=Pc fun x hx _=>Kp fun e=>h (by rw[<-e];exact hx)
theorem yG(r:Int->Nat):∀t:gB,∃M,∀y∈t,r y<M
 |[]=>⟨0,by simp⟩
 |x::t=>by
  obtain⟨M,h⟩:=yG r t;refine⟨M+r x+1,fun y hy=>?_⟩;rcases bu.1 hy with rfl|hy
  ·omega
  ·have:=h y hy;omega
theorem Bn.bind{a:gB}{N:Pl}{b:List gB}{σ:Sb}{r:Int->Nat}(h:Bn a N b σ r){v:Int}{t:gB}(hv:v<0)(hvN: -(N.n:Int)<=v)(hb:bg b v=[])(ht:Wv a 1 t)(htN:Nb N t)(hno:v∉sub σ t):
 ∃r',Bn a N (bs b v t) (fun x=>sub (DE v (sub σ t)) (σ x)) r':=by
 obtain⟨M,hM⟩:=yG r t;have hl: -1-v<(b.length:Int):=by rw[h.len];omega
 have hg:∀{x:Int},x<0->bg (bs b v t) x=if x=v then t else bg b x:=fun hx=>SD hv hl hx
 have hσv:σ v=[v]:=h.Mz v hv hb;have hut:sub (DE v (sub σ t)) (sub σ t)=sub σ t:=Pd hno;have hwt:Wv a 1 (sub σ t):=ht.sub fun x _ hx=>h.wv x hx
 have hp:∀y,y<0->Wv a 1 (DE v (sub σ t) y):=fun y hy=>by
  unfold DE;split
  ·exact hwt
  ·exact Wv.var hy
 have hmem:∀{x y:Int},x<0->bg b x≠[]->y∈bg b x->y<0->v∈σ y->v∈σ x:=fun{x y} hx hbx hy hy0 hvy=>by
  rw[h.val x hx hbx];exact oo.2 ⟨y,hy,.inl ⟨hy0,hvy⟩⟩
 refine⟨fun x=>if x=v then M else if v∈σ x then r x+M+1 else r x,?_,?_,?_,?_,?_,?_,?_,?_,?_⟩
 ·unfold bs;rw[fA];exact h.len
 ·intro x hx hbx;rw[hg hx]at hbx⊢;split
  ·exact⟨ht,htN⟩
  ·rename_i hne;rw[aj hne]at hbx;exact h.tm x hx hbx
 ·intro x hx hbx;rw[hg hx]at hbx;split at hbx
  ·rename_i e;rw[e];exact hvN
  ·exact h.inr x hx hbx
 ·intro x hx hbx;rw[hg hx]at hbx⊢;rw[<-sub_sub];split
  ·rename_i e;rw[e,hσv,sub_one hv,Vo,hut]
  ·rename_i hne;rw[aj hne]at hbx;rw[h.val x hx hbx]
 ·intro x hx hbx;rw[hg hx]at hbx;split at hbx
  ·rw[hbx]at ht;exact absurd rfl ht.ne
  ·rename_i hne;rw[h.Mz x hx hbx,sub_one hx,Kp hne]
 ·intro x hx y hy hy0;rw[hg hy0];obtain⟨z,hz,⟨hz0,hyz⟩|⟨hz0,rfl⟩⟩:=oo.1 hy
  ·unfold DE at hyz;split at hyz
   ·have hne:y≠v:=fun e=>hno (by rw[<-e];exact hyz)
    rw[aj hne];obtain⟨q,hq,⟨hq0,hyq⟩|⟨hq0,rfl⟩⟩:=oo.1 hyz
    ·exact h.G8 q hq0 y hyq hy0
    ·exact absurd hy0 hq0
   ·rename_i hne;rw[aK.1 hyz,aj hne];exact h.G8 x hx z hz hz0
  ·exact absurd hy0 hz0
 ·intro x hx;exact(h.wv x hx).sub fun y _ hy=>hp y hy
 ·intro x hx hxN y hy;obtain⟨z,hz,⟨hz0,hyz⟩|⟨hz0,rfl⟩⟩:=oo.1 hy
  ·unfold DE at hyz;split at hyz
   ·obtain⟨q,hq,⟨hq0,hyq⟩|⟨hq0,rfl⟩⟩:=oo.1 hyz
    ·exact h.CT q hq0 (htN q hq) y hyq
    ·exact htN y hq
   ·rw[aK.1 hyz];exact h.CT x hx hxN z hz
  ·exact h.CT x hx hxN y hz
 ·intro x hx hbx y hy hy0 hby;rw[hg hx]at hbx hy;rw[hg hy0]at hby;by_cases hxv:x=v
  ·rw[ah hxv]at hy;have hyv:y≠v:=fun e=>hno (oo.2 ⟨v,by rw[<-e];exact hy,.inl ⟨hv,by rw[hσv];exact aK.2 rfl⟩⟩)
   rw[aj hyv]at hby;have hvy:v∉σ y:=fun e=>hno (oo.2 ⟨y,hy,.inl ⟨hy0,e⟩⟩)
   have:=hM y hy;simp only[hxv,aC,hyv,hvy,aB];exact this
  ·rw[aj hxv]at hbx hy;by_cases hyv:y=v
   ·have hvx:v∈σ x:=hmem hx hbx hy hy0 (by rw[hyv,hσv];exact aK.2 rfl);simp only[hyv,aC,hxv,hvx,aB];omega
   ·rw[aj hyv]at hby;have hr:=h.rk x hx hbx y hy hy0 hby;simp only[hxv,hyv,aB];by_cases hvy:v∈σ y
    ·rw[ah hvy,ah (hmem hx hbx hy hy0 hvy)];omega
    ·rw[aj hvy];split<;>omega
theorem vC.bind{a:gB}{N:Pl}{b:List gB}{τ:Sb}{v:Int}{t:gB}(hN:b.length=N.n)(hv:v<0)(hvN: -(N.n:Int)<=v)(hb:bg b v=[])(ht:t≠[]):vC a (bs b v t) τ<->vC a b τ/\τ v=sub τ t:=by
 have hl: -1-v<(b.length:Int):=by omega
 have hg:∀{x:Int},x<0->bg (bs b v t) x=if x=v then t else bg b x:=fun hx=>SD hv hl hx
 constructor
 ·rintro⟨h1,h2⟩;refine⟨⟨h1,fun x hx hbx=>?_⟩,?_⟩
  ·have hne:x≠v:=fun e=>hbx (by rw[e];exact hb)
   have:=h2 x hx (by rw[hg hx,aj hne];exact hbx);rwa [hg hx,aj hne]at this
  ·have:=h2 v hv (by rw[hg hv,ah rfl];exact ht);rwa [hg hv,ah rfl]at this
 ·rintro⟨⟨h1,h2⟩,h3⟩;refine⟨h1,fun x hx hbx=>?_⟩;rw[hg hx]at hbx⊢;split
  ·rename_i e;rw[e];exact h3
  ·rename_i hne;rw[aj hne]at hbx;exact h2 x hx hbx
theorem RA{a:gB}{N:Pl}{b:List gB}{σ τ:Sb}{r:Int->Nat}(h:Bn a N b σ r)(hτ:vC a b τ){v:Int}{t:gB}(hv:v<0)(hin:v∈sub σ t)(hlen:2<=(sub σ t).length):τ v≠sub τ t:=fun e=>by
 rw[<-hτ.MN h t]at e;have:=Oe (σ:=τ) hv (fun y hy=>(hτ.1 y hy).len) hin;rw[<-e]at this;omega
theorem Va{a:gB}{N:Pl}{b1 b2:List gB}{σ1 σ2:Sb}{r1 r2:Int->Nat}(h1:Bn a N b1 σ1 r1)(h2:Bn a N b2 σ2 r2)(h:∀τ,vC a b1 τ<->vC a b2 τ)(t:gB):
 sub σ1 (sub σ2 t)=sub σ1 t/\sub σ2 (sub σ1 t)=sub σ2 t:=⟨((h σ1).1 h1.self).MN h2 t,((h σ2).2 h2.self).MN h1 t⟩
def hv(σ:Sb)(x:Int):Int:=if x<0 then(σ x).headD 0 else x
theorem CH{σ:Sb}(hp:∀y,y<0->1<=(σ y).length):∀t:gB,t.length<=(sub σ t).length
 |[]=>by simp[sub]
 |z::t=>by
  have ih:=CH hp t;rw[i_,ai,aJ];split
  ·rename_i hz;have:=hp z hz;omega
  ·simp;omega
theorem CI{σ:Sb}(hp:∀y,y<0->1<=(σ y).length):∀{t:gB},(sub σ t).length<=t.length->sub σ t=t.map (hv σ)
 |[],_=>rfl
 |z::t,h=>by
  have ih:=CH hp t;rw[i_,ai,aJ]at h;rw[i_,aO];by_cases hz:z<0
  ·rw[ah hz]at h⊢;have hz1:=hp z hz;have e:σ z=[hv σ z]:=by
    unfold hv;rw[ah hz]
    match hq:σ z,hz1,h with
    |[y],_,_=>rfl
    |_::_::_,_,h=>simp at h;omega
   rw[CI hp (t:=t) (by rw[e]at h;simp at h;omega),e];simp[hv,hz]
  ·rw[aj hz]at h⊢;rw[CI hp (t:=t) (by simp at h;omega)];simp[hv,hz]
structure Ren(ρ:Int->Int)(t u:gB):Prop where
 eq:u=t.map ρ
 fn:∀x,¬x<0->ρ x=x
 vr:∀x∈t,x<0->ρ x<0
 inj:∀x∈t,∀y∈t,ρ x=ρ y->x=y
theorem I4{a:gB}{N:Pl}{b1 b2:List gB}{σ1 σ2:Sb}{r1 r2:Int->Nat}(h1:Bn a N b1 σ1 r1)(h2:Bn a N b2 σ2 r2)(h:∀τ,vC a b1 τ<->vC a b2 τ)(t:gB):Ren (hv σ1) (sub σ2 t) (sub σ1 t):=by
 obtain⟨e1,e2⟩:=Va h1 h2 h t;have p1:∀y,y<0->1<=(σ1 y).length:=fun y hy=>(h1.wv y hy).len
 have p2:∀y,y<0->1<=(σ2 y).length:=fun y hy=>(h2.wv y hy).len
 have l1:=CH p1 (sub σ2 t);have l2:=CH p2 (sub σ1 t);rw[e1]at l1;rw[e2]at l2;have m1:sub σ1 t=(sub σ2 t).map (hv σ1):=by rw[<-CI p1 (by rw[e1];exact l2),e1]
 have m2:sub σ2 t=(sub σ1 t).map (hv σ2):=by rw[<-CI p2 (by rw[e2];exact l1),e2]
 have back:∀x∈sub σ2 t,hv σ2 (hv σ1 x)=x:=fun x hx=>by
  have hm:(sub σ2 t).map (fun x=>hv σ2 (hv σ1 x))=(sub σ2 t).map id:=by
   rw[List.map_id];conv=>rhs;rw[m2,m1]
   rw[eS];rfl
  exact List.map_inj_left.1 hm x hx
 refine⟨m1,fun x hx=>by simp[hv,hx],fun x hx hx0=>?_,fun x hx y hy e=>?_⟩
 ·refine cY fun hn=>?_
  have hb:=back x hx;have:hv σ2 (hv σ1 x)=hv σ1 x:=by rw[hv,aj hn]
  omega
 ·rw[<-back x hx,<-back y hy,e]
inductive Hd(b:List gB):gB->gB->Prop
 |stop {t:gB} (h:t.headD 0<0->bg b (t.headD 0)=[]):Hd b t t
 |go {t u:gB} (h:t.headD 0<0) (hb:bg b (t.headD 0)≠[]) (hu:Hd b (bg b (t.headD 0)) u):Hd b t u
theorem yw{a t:gB}(ht:Wv a 1 t)(h:t.headD 0<0):t=[t.headD 0]:=by
 obtain⟨x,q,rfl,_,_⟩:=ht.pos;have h':x<0:=h;rw[ht.Sh h'];rfl
theorem Hd.ok{a:gB}{N:Pl}{b:List gB}{σ:Sb}{r:Int->Nat}(h:Bn a N b σ r){t u:gB}(hu:Hd b t u):Wv a 1 t->Nb N t->
 Wv a 1 u/\Nb N u/\(u.headD 0<0->bg b (u.headD 0)=[])/\∀τ,vC a b τ->sub τ u=sub τ t:=by
 induction hu with
 |stop hs=>exact fun h1 h2=>⟨h1,h2,hs,fun _ _=>rfl⟩
 |@go t u hx hb _ ih=>
  intro h1 h2;obtain⟨w1,w2⟩:=h.tm _ hx hb;obtain⟨k1,k2,k3,k4⟩:=ih w1 w2;refine⟨k1,k2,k3,fun τ hτ=>?_⟩;rw[k4 τ hτ,yw h1 hx,sub_one hx];exact(hτ.2 _ hx hb).symm
theorem Hd.ex{a:gB}{N:Pl}{b:List gB}{σ:Sb}{r:Int->Nat}(h:Bn a N b σ r):∀(n:Nat){t:gB},Wv a 1 t->r (t.headD 0)<n->∃u,Hd b t u
 |0,_,_,hr=>by omega
 |n+1,t,ht,hr=>by
  by_cases hx:t.headD 0<0
  ·by_cases hb:bg b (t.headD 0)=[]
   ·exact⟨t,.stop fun _=>hb⟩
   ·obtain⟨w1,w2⟩:=h.tm _ hx hb;by_cases hy:(bg b (t.headD 0)).headD 0<0
    ·by_cases hb':bg b ((bg b (t.headD 0)).headD 0)=[]
     ·exact⟨_,.go hx hb (.stop fun _=>hb')⟩
     ·have hm:(bg b (t.headD 0)).headD 0∈bg b (t.headD 0):=by
       have:=yw w1 hy;rw[this];simp
      have:=h.rk _ hx hb _ hm hy hb';obtain⟨u,hu⟩:=Hd.ex h n w1 h_;exact⟨u,.go hx hb hu⟩
    ·exact⟨_,.go hx hb (.stop fun hc=>absurd hc hy)⟩
  ·exact⟨t,.stop fun hc=>absurd hc hx⟩
theorem Gj{a:gB}{τ:Sb}{f g:Int}{p q:gB}(hf:¬f<0)(hg:¬g<0)(h:sub τ (f::p)=sub τ (g::q)):f=g/\sub τ p=sub τ q:=by
 rw[i_,i_,aj hf,aj hg]at h;simp only[dN,bV]at h;exact h
def ry(τ:Sb):List gD->Prop
 |[]=>True
 |pq::l=>sub τ pq.1=sub τ pq.2/\ry τ l
theorem uT{τ:Sb}:∀{l m:List gD},ry τ (l++m)<->ry τ l/\ry τ m
 |[],m=>by simp[ry]
 |pq::l,m=>by simp[ry,uT (l:=l),and_assoc]
theorem JO{a:gB}{τ:Sb}(hτ:∀x,x<0->Wv a 1 (τ x)):∀{l:List gD},(∀pq∈l,Wv a 1 pq.1/\Wv a 1 pq.2)->(sub τ (l.map (·.1)).flatten=sub τ (l.map (·.2)).flatten<->ry τ l)
 |[],_=>by simp[ry,sub]
 |pq::l,h=>by
  obtain⟨w1,w2⟩:=h pq aS;have ih:=JO hτ (l:=l) fun x hx=>h x (aP _ hx)
  simp only[aO,ct,kN,ry,<-ih];constructor
  ·intro e;exact(w1.sub fun x _ hx=>hτ x hx).uniq (w2.sub fun x _ hx=>hτ x hx) e
  ·rintro⟨e1,e2⟩;rw[e1,e2]
structure At(a:gB)(N:Pl)(b:List gB)(s t u v:gB):Prop where
 ws:Wv a 1 s
 wt:Wv a 1 t
 ns:Nb N s
 nt:Nb N t
 hu:Hd b s u
 hv:Hd b t v
section
variable{a:gB}{N:Pl}{b:List gB}{σ:Sb}{r:Int->Nat}{s t u v:gB}
theorem At.eqs(h:Bn a N b σ r)(k:At a N b s t u v){τ:Sb}(hτ:vC a b τ):sub τ s=sub τ t<->sub τ u=sub τ v:=by rw[((k.hu.ok h k.ws k.ns).2.2.2 τ hτ),((k.hv.ok h k.wt k.nt).2.2.2 τ hτ)]
theorem KE(h:Bn a N b σ r)(k:At a N b s t u v)(hx:u.headD 0<0)(he:u.headD 0=v.headD 0){τ:Sb}(hτ:vC a b τ):sub τ s=sub τ t:=by
 obtain⟨w1,_,_,_⟩:=k.hu.ok h k.ws k.ns;obtain⟨w2,_,_,_⟩:=k.hv.ok h k.wt k.nt;rw[k.eqs h hτ,yw w1 hx,yw w2 h_,he]
theorem JT(h:Bn a N b σ r){x:Int}(hx:x<0)(hb:bg b x=[]){y:Int}(hy:y<0)(hby:bg b y=[]):x∈sub σ [y]<->x=y:=by rw[sub_one hy,h.Mz y hy hby,aK]
theorem Je(h:Bn a N b σ r)(k:At a N b s t u v)(hx:u.headD 0<0)(hne:u.headD 0≠v.headD 0)(hin:u.headD 0∈sub σ v){τ:Sb}(hτ:vC a b τ):sub τ s≠sub τ t:=by
 obtain⟨w1,_,f1,_⟩:=k.hu.ok h k.ws k.ns;obtain⟨w2,_,f2,_⟩:=k.hv.ok h k.wt k.nt;rw[Ne,k.eqs h hτ];have e1:=yw w1 hx;rw[e1,sub_one hx];refine RA h hτ hx hin ?_;by_cases hv0:v.headD 0<0
 ·rw[yw w2 hv0]at hin;exact absurd ((JT h hx (f1 hx) hv0 (f2 hv0)).1 hin) hne
 ·obtain⟨y,q,rfl,_,_⟩:=w2.pos;have hy:¬y<0:=hv0;rw[i_,aj hy]at hin⊢;have hm:u.headD 0∈sub σ q:=by
   rcases aF.1 hin with hm|hm
   ·rw[aK.1 hm]at hx;exact absurd hx hy
   ·exact hm
  have:=fq hm;simp;omega
theorem FB(h:Bn a N b σ r)(k:At a N b s t u v)(hx:u.headD 0<0)(hno:u.headD 0∉sub σ v):
 (∃σ' r',Bn a N (bs b (u.headD 0) v) σ' r')/\(∀τ,vC a (bs b (u.headD 0) v) τ<->vC a b τ/\sub τ s=sub τ t)/\bg b (u.headD 0)=[]/\ -(N.n:Int)<=u.headD 0/\v≠[]:=by
 obtain⟨w1,n1,f1,_⟩:=k.hu.ok h k.ws k.ns;obtain⟨w2,n2,_,_⟩:=k.hv.ok h k.wt k.nt;have e1:=yw w1 hx;have hxN: -(N.n:Int)<=u.headD 0:=n1 _ (by rw[e1];simp);obtain⟨r',hB⟩:=h.bind hx hxN (f1 hx) w2 n2 hno;refine⟨⟨_,r',hB⟩,fun τ=>?_,f1 hx,hxN,w2.ne⟩;rw[vC.bind h.len hx hxN (f1 hx) w2.ne];constructor
 ·rintro⟨h1,h2⟩;exact⟨h1,by rw[k.eqs h h1,e1,sub_one hx];exact h2⟩
 ·rintro⟨h1,h2⟩;rw[k.eqs h h1,e1,sub_one hx]at h2;exact⟨h1,h2⟩
theorem At.symm(k:At a N b s t u v):At a N b t s v u:=⟨k.wt,k.ws,k.nt,k.ns,k.hv,k.hu⟩
theorem Ht(h:Bn a N b σ r)(k:At a N b s t u v)(hx:¬u.headD 0<0)(hy:¬v.headD 0<0)(hne:u.headD 0≠v.headD 0){τ:Sb}(hτ:vC a b τ):sub τ s≠sub τ t:=by
 obtain⟨w1,_,_,_⟩:=k.hu.ok h k.ws k.ns;obtain⟨w2,_,_,_⟩:=k.hv.ok h k.wt k.nt;rw[Ne,k.eqs h hτ];obtain⟨x,p,rfl,_,_⟩:=w1.pos;obtain⟨y,q,rfl,_,_⟩:=w2.pos;intro e;exact hne (Gj (a:=a) hx hy e).1
theorem O_(h:Bn a N b σ r)(k:At a N b s t u v)(hx:¬u.headD 0<0)(hne:u.headD 0=v.headD 0){l:List gD}(hl:∀pq∈l,Wv a 1 pq.1/\Wv a 1 pq.2)(hu:u.tail=(l.map (·.1)).flatten)(hv:v.tail=(l.map (·.2)).flatten){τ:Sb}(hτ:vC a b τ):
 sub τ s=sub τ t<->ry τ l:=by
 obtain⟨w1,_,_,_⟩:=k.hu.ok h k.ws k.ns;obtain⟨w2,_,_,_⟩:=k.hv.ok h k.wt k.nt;rw[k.eqs h hτ];obtain⟨x,p,rfl,_,_⟩:=w1.pos;obtain⟨y,q,rfl,_,_⟩:=w2.pos;have e:x=y:=hne;subst e;have hx':¬x<0:=hx;rw[<-JO hτ.1 hl];simp only[List.tail_cons]at hu hv;rw[<-hu,<-hv];exact⟨fun e=>(Gj (a:=a) hx' hx' e).2,fun e=>by rw[i_,i_,e]⟩
end
def DU(b:List gB):Nat:=b.countP fun t=>t.isEmpty
theorem zF{p:gB->Bool}:∀{b:List gB}{i:Nat}{u:gB},i<b.length->p (b.getD i [])=true->p u=false->(b.set i u).countP p<b.countP p
 |[],i,_,h,_,_=>by simp at h
 |x::b,0,u,_,h1,h2=>by
  have h1':p x=true:=h1;simp[fk,h1',h2]
 |x::b,i+1,u,hi,h1,h2=>by
  have:=zF (p:=p) (b:=b) (i:=i) (u:=u) (by simpa using hi) (by simpa using h1) h2;simp only[fQ,fk];omega
theorem Ji{b:List gB}{x:Int}{u:gB}(hx:x<0)(hl: -1-x<(b.length:Int))(hb:bg b x=[])(hu:u≠[]):DU (bs b x u)<DU b:=by
 unfold DU bs;refine zF h_ ?_ ?_
 ·unfold bg at hb;rw[hb];rfl
 ·cases u with
  |nil=>exact absurd rfl hu
  |cons y u=>rfl
theorem Fq{σ:Sb}{f:Int}{p q m:gB}(hf:¬f<0):(sub σ m).length<(sub σ (f::(p++(m++q)))).length:=by
 rw[i_,aj hf,kN,kN];simp;omega
end Un
namespace Un
def B2(s:gB)(x:Int):gB:=if x<0/\x∉s then s++[x]else s
def mh(s t:gB):gB:=t.foldl B2 s
def xY(o:gB)(x:Int):Int:=if x<0 then -1-(o.idxOf x:Int)else x
def yJ(o t:gB):gB:=t.map (xY o)
structure FQ(ρ:Int->Int)(T:gB):Prop where
 fn:∀x,¬x<0->ρ x=x
 vr:∀x∈T,x<0->ρ x<0
 inj:∀x∈T,∀y∈T,ρ x=ρ y->x=y
theorem Ren.apart{ρ:Int->Int}{t u:gB}(h:Ren ρ t u):FQ ρ t:=⟨h.fn,h.vr,h.inj⟩
theorem Kf{s:gB}{x y:Int}(h:y∈B2 s x):y∈s\/y=x:=by
 unfold B2 at h;split at h
 ·rcases aF.1 h with h|h
  ·exact .inl h
  ·exact .inr (aK.1 h)
 ·exact .inl h
theorem Fj:∀{t s:gB}{y:Int},y∈mh s t->y∈s\/y∈t
 |[],s,y,h=>.inl h
 |x::t,s,y,h=>by
  rcases Fj (t:=t) (s:=B2 s x) h with h|h
  ·rcases Kf h with h|h
   ·exact .inl h
   ·exact .inr (by rw[h];exact aS)
  ·exact .inr (aP _ h)
theorem Kc{ρ:Int->Int}{T:gB}(hA:FQ ρ T):∀{t s:gB},(∀x∈s,x∈T)->(∀x∈t,x∈T)->mh (s.map ρ) (t.map ρ)=(mh s t).map ρ
 |[],s,_,_=>rfl
 |x::t,s,hs,ht=>by
  have hx:=ht x aS;have e:B2 (s.map ρ) (ρ x)=(B2 s x).map ρ:=by
   unfold B2;by_cases h0:x<0
   ·have h1:=hA.vr x hx h0;by_cases hm:x∈s
    ·rw[aj (fun c=>c.2 (bq.2 ⟨x,hm,rfl⟩)),aj (fun c=>c.2 hm)]
    ·rw[ah ⟨h1,fun c=>by
      obtain⟨y,hy,he⟩:=bq.1 c;exact hm (by rw[<-hA.inj y (hs y hy) x hx he];exact hy)⟩,ah ⟨h0,hm⟩,aR];rfl
   ·rw[aj (fun c=>h0 (by have:=c.1;rwa [hA.fn x h0]at this)),aj fun c=>h0 c.1]
  show mh (B2 (s.map ρ) (ρ x)) (t.map ρ)=(mh (B2 s x) t).map ρ;rw[e];refine Kc hA (fun y hy=>?_) fun y hy=>ht y (aP _ hy)
  rcases Kf hy with hy|rfl
  ·exact hs y hy
  ·exact hx
theorem JW{ρ:Int->Int}{T:gB}(hA:FQ ρ T){x:Int}(hx:x∈T):∀{o:gB},(∀y∈o,y∈T)->(o.map ρ).idxOf (ρ x)=o.idxOf x
 |[],_=>rfl
 |y::o,ho=>by
  rw[aO,List.idxOf_cons,List.idxOf_cons,JW hA hx fun z hz=>ho z (aP _ hz)];by_cases h:y=x
  ·subst h;simp
  ·have:ρ y≠ρ x:=fun e=>h (hA.inj y (ho y aS) x hx e)
   have h1:(ρ y==ρ x)=false:=by simpa using this
   have h2:(y==x)=false:=by simpa using h
   rw[h1,h2]
theorem RQ{ρ:Int->Int}{T o:gB}(hA:FQ ρ T)(ho:∀y∈o,y∈T){x:Int}(hx:x∈T):xY (o.map ρ) (ρ x)=xY o x:=by
 unfold xY;by_cases h0:x<0
 ·rw[ah (hA.vr x hx h0),ah h0,JW hA hx ho]
 ·rw[hA.fn x h0,aj h0,aj h0]
theorem Kr{ρ:Int->Int}{T o t:gB}(hA:FQ ρ T)(ho:∀y∈o,y∈T)(ht:∀y∈t,y∈T):yJ (o.map ρ) (t.map ρ)=yJ o t:=by
 unfold yJ;rw[eS];exact eJ fun x hx=>RQ hA ho (ht x hx)
theorem Kk{a:gB}{N:Pl}{b1 b2:List gB}{σ1 σ2:Sb}{r1 r2:Int->Nat}(h1:Bn a N b1 σ1 r1)(h2:Bn a N b2 σ2 r2)(h:∀τ,vC a b1 τ<->vC a b2 τ)(p q w:gB):
 (Tm.sub σ1 p).length=(Tm.sub σ2 p).length/\(mh [] (Tm.sub σ1 p)).length=(mh [] (Tm.sub σ2 p)).length/\
 yJ (mh [] (Tm.sub σ1 p)) (Tm.sub σ1 p)=yJ (mh [] (Tm.sub σ2 p)) (Tm.sub σ2 p)/\yJ (mh [] (Tm.sub σ1 p)) (Tm.sub σ1 q)=yJ (mh [] (Tm.sub σ2 p)) (Tm.sub σ2 q)/\(Tm.sub σ1 q).length=(Tm.sub σ2 q).length:=by
 have R:=I4 h1 h2 h (p++q);have hA:=R.apart;have e:=R.eq;have Rp:=(I4 h1 h2 h p).eq;have Rq:=(I4 h1 h2 h q).eq;rw[Tm.kN]at hA;have m1:∀x∈Tm.sub σ2 p,x∈Tm.sub σ2 p++Tm.sub σ2 q:=fun x hx=>aZ _ hx
 have m2:∀x∈Tm.sub σ2 q,x∈Tm.sub σ2 p++Tm.sub σ2 q:=fun x hx=>bp _ hx
 have ho:mh [] ((Tm.sub σ2 p).map (hv σ1))=(mh [] (Tm.sub σ2 p)).map (hv σ1):=Kc hA (s:=[]) (by simp) m1;have hs:∀y∈mh [] (Tm.sub σ2 p),y∈Tm.sub σ2 p++Tm.sub σ2 q:=fun y hy=>(Fj hy).elim (fun c=>by cases c) (m1 y)
 rw[Rp,Rq,ho];exact⟨by simp,by simp,Kr hA hs m1,Kr hA hs m2,by simp⟩
end Un
namespace Un
open Tm
def sn(seen:List Bool)(m:Int):Bool:=seen.getD (-1-m).toNat false
def ss(seen:List Bool)(m:Int):List Bool:=seen.set (-1-m).toNat true
theorem Ub{seen:List Bool}{n m:Int}(hn:n<0)(hl: -1-n<(seen.length:Int))(hm:m<0):sn (ss seen n) m=if m=n then true else sn seen m:=by
 unfold sn ss;rw[List.getD_eq_getElem?_getD,List.getD_eq_getElem?_getD,dQ];by_cases h:m=n
 ·subst h;rw[ah rfl,ah rfl,ah h_];rfl
 ·rw[aj h,aj h_]
def vF(b:List gB)(x:Int):Nat->gB->List Bool->Option (Bool×List Bool)
 |0,_,_=>none
 |_+1,[],seen=>some (false,seen)
 |f+1,m::t,seen=>
  if m=x then some (true,seen)
  else if 0<=m\/sn seen m=true then vF b x (f+1) t seen
  else if bg b m=[]then vF b x (f+1) t (ss seen m)
  else(vF b x f (bg b m) (ss seen m)).bind fun q=>if q.1=true then some (true,q.2)else vF b x (f+1) t q.2
termination_by f t _=>(f,t.length)
theorem wU{b:List gB}{x:Int}:∀(f:Nat)(t:gB)(seen:List Bool){q:Bool×List Bool},vF b x f t seen=some q->q.2.length=seen.length
 |0,_,_,q,h=>by simp[vF]at h
 |f+1,[],seen,q,h=>by simp only[vF,aL]at h;rw[<-h]
 |f+1,m::t,seen,q,h=>by
  rw[vF]at h;split at h
  ·cases h;rfl
  ·split at h
   ·exact wU (f+1) t seen h
   ·split at h
    ·rw[wU (f+1) t _ h];simp[ss]
    ·obtain⟨p,hp,h⟩:=aq.1 h;have h1:=wU f _ _ hp;split at h
     ·cases h;rw[h1];simp[ss]
     ·rw[wU (f+1) t _ h,h1];simp[ss]
termination_by f t _=>(f,t.length)
theorem AU{a:gB}{N:Pl}{b:List gB}{σ:Sb}{r:Int->Nat}(h:Bn a N b σ r){x:Int}(hx:x<0)(hbx:bg b x=[]):∀(f:Nat)(t:gB)(seen:List Bool){R:Nat},R<f->seen.length=N.n->
 (∀y∈t, -(N.n:Int)<=y)->(∀y∈t,y<0->bg b y≠[]->r y<R)->(∀m,m<0-> -(N.n:Int)<=m->sn seen m=true->(bg b m≠[]->r m<R)->x∉σ m)->
 ∃q,vF b x f t seen=some q/\(q.1=true->x∈sub σ t)/\(q.1=false->x∉sub σ t/\∀m,m<0-> -(N.n:Int)<=m->sn q.2 m=true->sn seen m=true\/x∉σ m)
 |0,_,_,R,hR,_,_,_,_=>by omega
 |f+1,[],seen,R,hR,hl,hn,hr,hs=>⟨(false,seen),by simp[vF],fun e=>(by cases e),fun _=>⟨by simp[sub],fun m _ _ e=>.inl e⟩⟩
 |f+1,m::t,seen,R,hR,hl,hn,hr,hs=>by
  have hn':∀y∈t, -(N.n:Int)<=y:=fun y hy=>hn y (aP _ hy)
  have hr':∀y∈t,y<0->bg b y≠[]->r y<R:=fun y hy=>hr y (aP _ hy)
  have hmN:=hn m aS;rw[vF];by_cases hm:m=x
  ·rw[ah hm];refine⟨_,rfl,fun _=>?_,fun e=>by cases e⟩;refine oo.2 ⟨x,by rw[hm];exact aS,.inl ⟨hx,?_⟩⟩;rw[h.Mz x hx hbx];exact aK.2 rfl
  ·rw[aj hm];by_cases hc:0<=m\/sn seen m=true
   ·rw[ah hc];obtain⟨q,e,q1,q2⟩:=AU h hx hbx (f+1) t seen hR hl hn' hr' hs;refine⟨q,e,fun k=>?_,fun k=>⟨fun hin=>?_,(q2 k).2⟩⟩
    ·rw[i_];exact bp _ (q1 k)
    ·rw[i_]at hin;rcases aF.1 hin with hin|hin
     ·split at hin
      ·rename_i h0;rcases hc with hc|hc
       ·omega
       ·exact hs m h0 hmN hc (hr m aS h0) hin
      ·rename_i h0;exact hm (aK.1 hin).symm
     ·exact(q2 k).1 hin
   ·rw[aj hc];have h0:m<0:=by omega
    have FO:sn seen m≠true:=fun e=>hc (.inr e)
    have hlm: -1-m<(seen.length:Int):=by omega
    have hg:∀{y:Int},y<0->sn (ss seen m) y=if y=m then true else sn seen y:=fun hy=>Ub h0 hlm hy
    have hl':(ss seen m).length=N.n:=by simp[ss,hl]
    by_cases hb:bg b m=[]
    ·rw[ah hb];have hxm:x∉σ m:=by rw[h.Mz m h0 hb];exact fun e=>hm (aK.1 e).symm
     obtain⟨q,e,q1,q2⟩:=AU h hx hbx (f+1) t (ss seen m) hR hl' hn' hr' (fun y hy hyN hsy hry=>by
      rw[hg hy]at hsy;split at hsy
      ·rename_i e;rw[e];exact hxm
      ·exact hs y hy hyN hsy hry)
     refine⟨q,e,fun k=>?_,fun k=>⟨fun hin=>?_,fun y hy hyN hsy=>?_⟩⟩
     ·rw[i_];exact bp _ (q1 k)
     ·rw[i_,ah h0]at hin;rcases aF.1 hin with hin|hin
      ·exact hxm hin
      ·exact(q2 k).1 hin
     ·rcases(q2 k).2 y hy hyN hsy with hsy|hsy
      ·rw[hg hy]at hsy;split at hsy
       ·rename_i e;exact .inr (by rw[e];exact hxm)
       ·exact .inl hsy
      ·exact .inr hsy
    ·rw[aj hb];obtain⟨w1,w2⟩:=h.tm m h0 hb;have hmR:=hr m aS h0 hb;obtain⟨p,e1,p1,p2⟩:=AU h hx hbx f (bg b m) (ss seen m) (R:=r m) h_ hl' w2 (fun y hy hy0 hby=>h.rk m h0 hb y hy hy0 hby) (fun y hy hyN hsy hry=>by
      rw[hg hy]at hsy;split at hsy
      ·rename_i e;have:=hry (by rw[e];exact hb);rw[e]at this;omega
      ·exact hs y hy hyN hsy fun k=>by have:=hry k;omega)
     rw[e1,aa];cases hp:p.1 with
     |true=>
      rw[ah rfl];refine⟨_,rfl,fun _=>?_,fun e=>by cases e⟩;rw[i_,ah h0];exact aZ _ (by rw[h.val m h0 hb];exact p1 hp)
     |false=>
      rw[aj (by simp)];obtain⟨k1,k2⟩:=p2 hp;have hxm:x∉σ m:=by rw[h.val m h0 hb];exact k1
      have hpl:p.2.length=N.n:=by rw[wU f _ _ e1];exact hl'
      obtain⟨q,e,q1,q2⟩:=AU h hx hbx (f+1) t p.2 hR hpl hn' hr' (fun y hy hyN hsy hry=>by
       rcases k2 y hy hyN hsy with hsy|hsy
       ·rw[hg hy]at hsy;split at hsy
        ·rename_i e;rw[e];exact hxm
        ·exact hs y hy hyN hsy hry
       ·exact hsy)
      refine⟨q,e,fun k=>?_,fun k=>⟨fun hin=>?_,fun y hy hyN hsy=>?_⟩⟩
      ·rw[i_];exact bp _ (q1 k)
      ·rw[i_,ah h0]at hin;rcases aF.1 hin with hin|hin
       ·exact hxm hin
       ·exact(q2 k).1 hin
      ·rcases(q2 k).2 y hy hyN hsy with hsy|hsy
       ·rcases k2 y hy hyN hsy with hsy|hsy
        ·rw[hg hy]at hsy;split at hsy
         ·rename_i e;exact .inr (by rw[e];exact hxm)
         ·exact .inl hsy
        ·exact .inr hsy
       ·exact .inr hsy
termination_by f t _=>(f,t.length)
abbrev Bd:=List gB
def oS(a:gB):Nat->gB->List gB
 |0,_=>[]
 |k+1,t=>match xZ a t 1 with
  |some r=>t.take (t.length-r.length)::oS a k r
  |none=>[]
theorem uD{a:gB}:∀{k:Nat}{t:gB},Wv a k t->(oS a k t).flatten=t/\(oS a k t).length=k/\∀u∈oS a k t,Wv a 1 u
 |0,t,h=>by rw[h.zero];simp[oS]
 |k+1,t,h=>by
  rw[cS]at h;obtain⟨u,v,rfl,h1,h2⟩:=h.split;have e:xZ a (u++v) 1=some v:=h1.skip v;obtain⟨i1,i2,i3⟩:=uD h2;have e2:(u++v).take ((u++v).length-v.length)=u:=by rw[ai,d_];simp
  have e3:oS a (k+1) (u++v)=u::oS a k v:=by rw[oS,e];simp only;rw[e2]
  rw[e3];refine⟨by rw[ct,i1],by rw[aJ,i2],fun w hw=>?_⟩;rcases bu.1 hw with rfl|hw
  ·exact h1
  ·exact i3 w hw
def Cl(a:gB)(N:Pl):Prop:=∀t,Nb N t->Wv a 1 t->¬t.headD 0<0->∀u∈oS a (lA a (t.headD 0)) t.tail,Nb N u
structure zq(a:gB)(N:Pl)(b:Bd)(E:Sb->Prop)(res:Bd×Bool):Prop where
 yes:res.2=true->(∃σ' r',Bn a N res.1 σ' r')/\(∀τ,vC a res.1 τ<->vC a b τ/\E τ)/\(res.1=b\/DU res.1<DU b)
 no:res.2=false->∀τ,vC a b τ->¬E τ
def UJ(E:Bd->gB->gB->Option (Bd×Bool)):Bd->List gD->Option (Bd×Bool)
 |b,[]=>some (b,true)
 |b,pq::l=>(E b pq.1 pq.2).bind fun q=>if q.2=true then UJ E q.1 l else some (q.1,false)
def way(u v:gB):Int×gB:=if v.headD 0<0/\(0<=u.headD 0\/v.headD 0<u.headD 0)then(v.headD 0,u)else(u.headD 0,v)
open Classical in
def one(a:gB)(E:Bd->gB->gB->Option (Bd×Bool))(b:Bd)(σ:Sb)(u v:gB):Option (Bd×Bool):=
 if u.headD 0=v.headD 0/\u.headD 0<0 then some (b,true)
 else if u.headD 0<0\/v.headD 0<0 then
  if 0<=(way u v).2.headD 0/\(way u v).1∈sub σ (way u v).2 then some (b,false)else some (bs b (way u v).1 (way u v).2,true)
 else if u.headD 0≠v.headD 0 then some (b,false)
 else UJ E b ((oS a (lA a (u.headD 0)) u.tail).zip (oS a (lA a (u.headD 0)) v.tail))
structure Bl(a:gB)(N:Pl)(E:Nat->Bd->gB->gB->Option (Bd×Bool)):Prop where
 step:∀{b:Bd}{σ:Sb}{r:Int->Nat}{s t:gB},Bn a N b σ r->Wv a 1 s->Wv a 1 t->Nb N s->Nb N t->
  ∃u v,Hd b s u/\Hd b t v/\∀f,E (f+1) b s t=one a (E f) b σ u v
theorem DY{α β:Type}:∀{xs:List α}{ys:List β},xs.length=ys.length->(xs.zip ys).map (·.1)=xs/\(xs.zip ys).map (·.2)=ys
 |[],[],_=>⟨rfl,rfl⟩
 |x::xs,y::ys,h=>by
  obtain⟨h1,h2⟩:=DY (xs:=xs) (ys:=ys) (by simpa using h);exact⟨by rw[ec,aO,h1],by rw[ec,aO,h2]⟩
 |[],_::_,h=>by cases h
 |_::_,[],h=>by cases h
theorem nH{xs:List gB}{u:gB}(h:u∈xs):∃p q,xs.flatten=p++(u++q):=by
 obtain⟨l,r,rfl⟩:=List.append_of_mem h;exact⟨l.flatten,r.flatten,by simp⟩
def Good(a:gB)(N:Pl)(E:Nat->Bd->gB->gB->Option (Bd×Bool))(b:Bd)(s t:gB):Prop:=
 ∃F res,(∀f,F<=f->E f b s t=some res)/\zq a N b (fun τ=>sub τ s=sub τ t) res
theorem NK{a:gB}{N:Pl}{E:Nat->Bd->gB->gB->Option (Bd×Bool)}{b0:Bd}{σ0:Sb}{r0:Int->Nat}(h0:Bn a N b0 σ0 r0)
 (low:∀{b:Bd}{σ:Sb}{r:Int->Nat}{s t:gB},Bn a N b σ r->DU b<DU b0->Wv a 1 s->Wv a 1 t->Nb N s->Nb N t->Good a N E b s t):
 ∀(l:List gD){b:Bd}{σ:Sb}{r:Int->Nat},Bn a N b σ r->(b=b0\/DU b<DU b0)->(∀pq∈l,Wv a 1 pq.1/\Wv a 1 pq.2/\(Nb N pq.1)/\(Nb N pq.2)/\Good a N E b0 pq.1 pq.2)->
 ∃F res,(∀f,F<=f->UJ (E f) b l=some res)/\zq a N b (fun τ=>ry τ l) res
 |[],b,σ,r,h,hb,hl=>⟨0,(b,true),fun _ _=>rfl,⟨fun _=>⟨⟨σ,r,h⟩,fun τ=>by simp[ry],.inl rfl⟩,fun e=>by cases e⟩⟩
 |pq::l,b,σ,r,h,hb,hl=>by
  obtain⟨w1,w2,n1,n2,hg⟩:=hl pq aS;have hgood:Good a N E b pq.1 pq.2:=by
   rcases hb with rfl|hb
   ·exact hg
   ·exact low h hb w1 w2 n1 n2
  obtain⟨F,res,e1,R1⟩:=hgood;cases hr:res.2 with
  |false=>
   refine⟨F,(res.1,false),fun f hf=>?_,⟨fun e=>(by cases e),fun _ τ hτ hA=>R1.no hr τ hτ hA.1⟩⟩;rw[UJ,e1 f hf,aa,hr,aj (by simp)]
  |true=>
   obtain⟨⟨σ',r',h'⟩,hS,hb'⟩:=R1.yes hr;have hb2:res.1=b0\/DU res.1<DU b0:=by
    rcases hb' with e|hb'
    ·rw[e];exact hb
    ·rcases hb with rfl|hb
     ·exact .inr hb'
     ·exact .inr h_
   obtain⟨F2,res2,e2,R2⟩:=NK h0 low l h' hb2 fun x hx=>hl x (aP _ hx)
   refine⟨max F F2,res2,fun f hf=>?_,⟨fun e=>?_,fun e τ hτ hA=>?_⟩⟩
   ·rw[UJ,e1 f h_,aa,hr,ah rfl];exact e2 f h_
   ·obtain⟨k1,k2,k3⟩:=R2.yes e;refine⟨k1,fun τ=>?_,?_⟩
    ·rw[k2 τ,hS τ];simp only[ry,and_assoc]
    ·rcases k3 with k3|k3
     ·rw[k3];exact hb'
     ·rcases hb' with e'|hb'
      ·rw[e']at k3;exact .inr k3
      ·exact .inr h_
   ·exact R2.no e τ ((hS τ).2 ⟨hτ,hA.1⟩) hA.2
theorem HB{a:gB}{N:Pl}{b:Bd}{σ:Sb}{r:Int->Nat}(h:Bn a N b σ r){s t u v:gB}(k:At a N b s t u v)(hx:u.headD 0<0)(hne:u.headD 0≠v.headD 0):
 (0<=v.headD 0/\u.headD 0∈sub σ v->∀τ,vC a b τ->sub τ s≠sub τ t)/\
 (¬(0<=v.headD 0/\u.headD 0∈sub σ v)->zq a N b (fun τ=>sub τ s=sub τ t) (bs b (u.headD 0) v,true)):=by
 refine⟨fun hc τ hτ=>Je h k hx hne hc.2 hτ,fun hc=>?_⟩;have hno:u.headD 0∉sub σ v:=fun hin=>by
  obtain⟨w1,n1,f1,_⟩:=k.hu.ok h k.ws k.ns;obtain⟨w2,n2,f2,_⟩:=k.hv.ok h k.wt k.nt;by_cases h0:v.headD 0<0
  ·rw[yw w2 h0]at hin;exact hne ((JT h hx (f1 hx) h0 (f2 h0)).1 hin)
  ·exact hc ⟨h_,hin⟩
 obtain⟨k1,k2,k3,k4,k5⟩:=FB h k hx hno;refine⟨fun _=>⟨k1,k2,.inr ?_⟩,fun e=>by cases e⟩;exact Ji hx (by rw[h.len];omega) k3 k5
theorem zq.of{a:gB}{N:Pl}{b:Bd}{E E':Sb->Prop}{res:Bd×Bool}(h:zq a N b E res)(he:∀τ,vC a b τ->(E τ<->E' τ)):zq a N b E' res:=
 ⟨fun e=>⟨(h.yes e).1,fun τ=>by rw[(h.yes e).2.1 τ];exact⟨fun k=>⟨k.1,(he τ k.1).1 k.2⟩,fun k=>⟨k.1,(he τ k.1).2 k.2⟩⟩,(h.yes e).2.2⟩,fun e τ hτ hE=>h.no e τ hτ ((he τ hτ).2 hE)⟩
theorem Bl.good{a:gB}{N:Pl}{E:Nat->Bd->gB->gB->Option (Bd×Bool)}(hE:Bl a N E)(hC:Cl a N)(U M:Nat){b:Bd}{σ:Sb}{r:Int->Nat}{s t:gB}(h:Bn a N b σ r)(hU:DU b<=U)(hM:(sub σ s).length+(sub σ t).length<=M)
 (ws:Wv a 1 s) (wt:Wv a 1 t) (ns:Nb N s) (nt:Nb N t):Good a N E b s t:=by
 obtain⟨u,v,hu,hv,hstep⟩:=hE.step h ws wt ns nt;have k:At a N b s t u v:=⟨ws,wt,ns,nt,hu,hv⟩;obtain⟨w1,n1,f1,g1⟩:=hu.ok h ws ns;obtain⟨w2,n2,f2,g2⟩:=hv.ok h wt nt;have key:∃F res,(∀f,F<=f->one a (E f) b σ u v=some res)/\zq a N b (fun τ=>sub τ s=sub τ t) res:=by
  unfold one;by_cases c1:u.headD 0=v.headD 0/\u.headD 0<0
  ·refine⟨0,(b,true),fun f _=>by rw[ah c1],⟨fun _=>⟨⟨σ,r,h⟩,fun τ=>⟨fun hτ=>⟨hτ,KE h k c1.2 c1.1 hτ⟩,fun hτ=>hτ.1⟩,.inl rfl⟩,fun e=>by cases e⟩⟩
  ·by_cases c2:u.headD 0<0\/v.headD 0<0
   ·have hne:u.headD 0≠v.headD 0:=fun e=>c1 ⟨e,h_⟩
    by_cases c3:v.headD 0<0/\(0<=u.headD 0\/v.headD 0<u.headD 0)
    ·have hw:way u v=(v.headD 0,u):=by unfold way;rw[ah c3]
     obtain⟨p1,p2⟩:=HB h k.symm c3.1 (Ne.symm hne);by_cases c4:0<=u.headD 0/\v.headD 0∈sub σ u
     ·exact⟨0,(b,false),fun f _=>by rw[aj c1,ah c2,hw,ah c4],⟨fun e=>(by cases e),fun _ τ hτ e=>p1 c4 τ hτ e.symm⟩⟩
     ·exact⟨0,(bs b (v.headD 0) u,true),fun f _=>by rw[aj c1,ah c2,hw,aj c4],(p2 c4).of fun τ _=>gy⟩
    ·have hx:u.headD 0<0:=by omega
     have hw:way u v=(u.headD 0,v):=by unfold way;rw[aj c3]
     obtain⟨p1,p2⟩:=HB h k hx hne;by_cases c4:0<=v.headD 0/\u.headD 0∈sub σ v
     ·exact⟨0,(b,false),fun f _=>by rw[aj c1,ah c2,hw,ah c4],⟨fun e=>(by cases e),fun _ τ hτ e=>p1 c4 τ hτ e⟩⟩
     ·exact⟨0,(bs b (u.headD 0) v,true),fun f _=>by rw[aj c1,ah c2,hw,aj c4],p2 c4⟩
   ·have hx:¬u.headD 0<0:=by omega
    have hy:¬v.headD 0<0:=by omega
    by_cases c3:u.headD 0=v.headD 0
    ·obtain⟨x,p,eu,_,wp⟩:=w1.pos;obtain⟨y,q,ev,_,wq⟩:=w2.pos;subst eu;subst ev;have exy:x=y:=c3;subst exy;have hx':¬x<0:=hx;rw[ck]at wp wq;obtain⟨i1,i2,i3⟩:=uD wp;obtain⟨j1,j2,j3⟩:=uD wq;have hlen:(oS a (lA a x) p).length=(oS a (lA a x) q).length:=by rw[i2,j2]
     obtain⟨z1,z2⟩:=DY hlen;have hsz1:(sub σ (x::p)).length=(sub σ s).length:=by rw[g1 σ h.self]
     have hsz2:(sub σ (x::q)).length=(sub σ t).length:=by rw[g2 σ h.self]
     have low:∀{b':Bd}{σ':Sb}{r':Int->Nat}{s' t':gB},Bn a N b' σ' r'->DU b'<DU b->Wv a 1 s'->Wv a 1 t'->(Nb N s')->(Nb N t')->Good a N E b' s' t':=fun{b' σ' r' s' t'} h' hlt ws' wt' ns' nt'=>
      have hd:DU b'<U:=by omega
      Bl.good hE hC (DU b') _ h' (aA _) (aA _) ws' wt' ns' nt'
     have pairs:∀pq∈(oS a (lA a x) p).zip (oS a (lA a x) q),Wv a 1 pq.1/\Wv a 1 pq.2/\(Nb N pq.1)/\(Nb N pq.2)/\Good a N E b pq.1 pq.2:=fun pq hpq=>by
      obtain⟨m1,m2⟩:=gv (a:=pq.1) (b:=pq.2) hpq;obtain⟨p1,p2,ep⟩:=nH m1;obtain⟨q1,q2,eq'⟩:=nH m2;rw[i1]at ep;rw[j1]at eq';have np:Nb N pq.1:=hC _ n1 w1 hx' _ m1;have nq:Nb N pq.2:=hC _ n2 w2 hx' _ m2;have l1:=Fq (σ:=σ) (p:=p1) (q:=p2) (m:=pq.1) hx';have l2:=Fq (σ:=σ) (p:=q1) (q:=q2) (m:=pq.2) hx';rw[<-ep,hsz1]at l1;rw[<-eq',hsz2]at l2;have hd:(sub σ pq.1).length+(sub σ pq.2).length<M:=by omega
      exact⟨i3 _ m1,j3 _ m2,np,nq,Bl.good hE hC U _ h hU (aA _) (i3 _ m1) (j3 _ m2) np nq⟩
     obtain⟨F,res,e1,R⟩:=NK h low ((oS a (lA a x) p).zip (oS a (lA a x) q)) h (.inl rfl) pairs;refine⟨F,res,fun f hf=>?_,R.of fun τ hτ=>?_⟩
     ·rw[aj c1,aj c2,aj (fun e=>e c3)];exact e1 f hf
     ·exact(O_ h k hx c3 (fun pq hpq=>⟨(pairs pq hpq).1,(pairs pq hpq).2.1⟩) (by rw[z1,i1];rfl) (by rw[z2,j1];rfl) hτ).symm
    ·exact⟨0,(b,false),fun f _=>by rw[aj c1,aj c2,ah c3],⟨fun e=>(by cases e),fun _ τ hτ e=>Ht h k hx hy c3 hτ e⟩⟩
 obtain⟨F,res,e1,R⟩:=key;refine⟨F+1,res,fun f hf=>?_,R⟩;obtain⟨g,rfl⟩:∃g,f=g+1:=⟨f-1,h_⟩;rw[hstep g];exact e1 g h_
termination_by (U,M)
end Un
namespace Un
open Tm ng
abbrev Pr:=List gD
def LU(σ:Sb)(l:Pr):Nat:=(l.map fun pq=>(sub σ pq.1).length+(sub σ pq.2).length).sum
theorem Ko{σ:Sb}{l m:Pr}:LU σ (l++m)=LU σ l+LU σ m:=by unfold LU;rw[aR,List.sum_append]
theorem G3{σ:Sb}:∀{l:Pr},LU σ l=(sub σ (l.map (·.1)).flatten).length+(sub σ (l.map (·.2)).flatten).length
 |[]=>rfl
 |pq::l=>by
  have ih:=G3 (σ:=σ) (l:=l);unfold LU at ih⊢;simp only[aO,List.sum_cons,ct,kN,ai];omega
theorem GY:∀{H P:List gB},H.Nodup->(∀x∈H,x∈P)->H.length<=P.length
 |[],P,_,_=>cW _
 |x::H,P,hn,hs=>by
  obtain⟨h1,h2⟩:=cz.1 hn;have hx:=hs x aS;have i:=GY (P:=P.erase x) h2 fun y hy=>(List.mem_erase_of_ne (fun e:y=x=>h1 (by rw[<-e];exact hy))).2 (hs y (aP _ hy))
  rw[List.length_erase_of_mem hx]at i;have:=fq hx;rw[aJ];omega
def Cs(a:gB)(b:Bd)(e X:gB):Prop:=∀τ,vC a b τ->(sub τ e).length<(sub τ X).length
inductive Ch(N:Pl)(C:gB->gB->Prop):List gB->List gB->Prop
 |base {l:List gB} (h:l.length<=1):Ch N C [] l
 |SU {H l m:List gB} {X:gB} (h:Ch N C H l) (h3:m.length<=3) (he:∀e∈m,C e X) (hX:∀Y∈H,C X Y) (hP:X∈N.P):Ch N C (X::H) (l++m)
theorem Ch.mono{N:Pl}{C C':gB->gB->Prop}(hC:∀e X,C e X->C' e X){H l:List gB}(h:Ch N C H l):Ch N C' H l:=by
 induction h with
 |base h=>exact .base h
 |SU h h3 he hX hP ih=>exact .SU ih h3 (fun e k=>hC _ _ (he e k)) (fun Y k=>hC _ _ (hX Y k)) hP
theorem Ch.len{N:Pl}{C:gB->gB->Prop}{H l:List gB}(h:Ch N C H l):l.length<=1+3*H.length:=by
 induction h with
 |base h=>simpa using h
 |SU h h3 he hX hP ih=>rw[ai,aJ];omega
theorem Ch.mem{N:Pl}{C:gB->gB->Prop}{H l:List gB}(h:Ch N C H l):∀x∈H,x∈N.P:=by
 induction h with
 |base h=>simp
 |SU h h3 he hX hP ih=>
  intro x hx;rcases bu.1 hx with rfl|hx
  ·exact hP
  ·exact ih x hx
theorem Ch.nodup{N:Pl}{C:gB->gB->Prop}(hi:∀X,¬C X X){H l:List gB}(h:Ch N C H l):H.Nodup:=by
 induction h with
 |base h=>exact eV
 |@SU H l m X h h3 he hX hP ih=>exact cz.2 ⟨fun k=>hi X (hX X k),ih⟩
theorem Ch.pop{N:Pl}{C:gB->gB->Prop}(ht:∀{x y z},C x y->C y z->C x z){H q:List gB}(h:Ch N C H q):∀{l:List gB}{s:gB},q=l++[s]->∃H',Ch N C H' l/\∀Y∈H',C s Y:=by
 induction h with
 |base h=>
  intro l s e;subst e;rw[ai,aX]at h;exact⟨[],.base h_,by simp⟩
 |@SU H l0 m X h h3 he hX hP ih=>
  intro l s e;rcases fD m with rfl|⟨m',s',rfl⟩
  ·rw[bh]at e;exact ih e
  ·rw[dO,<-aH]at e;obtain⟨e1,e2⟩:=List.append_inj' e rfl;cases e2;rw[dO]at he h3;have hs:C s X:=he s (by simp);refine⟨X::H,e1▸ .SU h (by rw[ai]at h3;omega) (fun e k=>he e (aZ _ k)) hX hP,fun Y hY=>?_⟩;rcases bu.1 hY with rfl|hY
   ·exact hs
   ·exact ht hs (hX Y hY)
structure zX{S β:Type}(a:gB)(N:Pl)(enc:Bd->List gB->List gB->S)(out:Bd->Bool->β)(f:S->Option (S⊕β)):Prop where
 nil:∀b,f (enc b [] [])=some (.inr (out b true))
 step:∀{b:Bd}{σ:Sb}{r:Int->Nat}{l:Pr}{s t:gB},Bn a N b σ r->Wv a 1 s->Wv a 1 t->Nb N s->Nb N t->
  l.length<=3*N.P.length->
  ∃u v,Hd b s u/\Hd b t v/\
   (u.headD 0=v.headD 0/\u.headD 0<0->f (enc b (l.map (·.1)++[s]) (l.map (·.2)++[t]))=some (.inl (enc b (l.map (·.1)) (l.map (·.2)))))/\
   (u.headD 0≠v.headD 0->u.headD 0<0->u.headD 0∈sub σ v->∃b',f (enc b (l.map (·.1)++[s]) (l.map (·.2)++[t]))=some (.inr (out b' false)))/\
   (u.headD 0≠v.headD 0->u.headD 0<0->u.headD 0∉sub σ v->f (enc b (l.map (·.1)++[s]) (l.map (·.2)++[t]))=some (.inl (enc (bs b (u.headD 0) v) (l.map (·.1)) (l.map (·.2)))))/\
   (¬u.headD 0<0->v.headD 0<0->v.headD 0∈sub σ u->∃b',f (enc b (l.map (·.1)++[s]) (l.map (·.2)++[t]))=some (.inr (out b' false)))/\
   (¬u.headD 0<0->v.headD 0<0->v.headD 0∉sub σ u->f (enc b (l.map (·.1)++[s]) (l.map (·.2)++[t]))=some (.inl (enc (bs b (v.headD 0) u) (l.map (·.1)) (l.map (·.2)))))/\
   (¬u.headD 0<0->¬v.headD 0<0->u.headD 0≠v.headD 0->∃b',f (enc b (l.map (·.1)++[s]) (l.map (·.2)++[t]))=some (.inr (out b' false)))/\
   (¬u.headD 0<0->u.headD 0=v.headD 0->f (enc b (l.map (·.1)++[s]) (l.map (·.2)++[t]))=some (.inl (enc b (l.map (·.1)++oS a (lA a (u.headD 0)) u.tail) (l.map (·.2)++oS a (lA a (u.headD 0)) v.tail))))
def Uq(a:gB)(N:Pl)(l:Pr):Prop:=∀pq∈l,Wv a 1 pq.1/\Wv a 1 pq.2/\(Nb N pq.1)/\Nb N pq.2
theorem zq.chain{a:gB}{N:Pl}{b b':Bd}{E E' F:Sb->Prop}{res:Bd×Bool}(h:zq a N b' E res)(h1:∀τ,vC a b' τ<->vC a b τ/\F τ)(hb:b'=b\/DU b'<DU b)(he:∀τ,vC a b τ->(E' τ<->F τ/\E τ)):zq a N b E' res:=by
 refine⟨fun e=>⟨(h.yes e).1,fun τ=>?_,?_⟩,fun e τ hτ hE=>?_⟩
 ·rw[(h.yes e).2.1 τ,h1 τ];constructor
  ·rintro⟨⟨k1,k2⟩,k3⟩;exact⟨k1,(he τ k1).2 ⟨k2,k3⟩⟩
  ·rintro⟨k1,k2⟩;exact⟨⟨k1,((he τ k1).1 k2).1⟩,((he τ k1).1 k2).2⟩
 ·rcases(h.yes e).2.2 with k|k
  ·rw[k];exact hb
  ·rcases hb with rfl|hb
   ·exact .inr k
   ·exact .inr h_
 ·obtain⟨k1,k2⟩:=(he τ hτ).1 hE;exact h.no e τ ((h1 τ).2 ⟨hτ,k1⟩) k2
theorem zX.good{S β:Type}{a:gB}{N:Pl}{enc:Bd->List gB->List gB->S}{out:Bd->Bool->β}{f:S->Option (S⊕β)}(hf:zX a N enc out f)(hC:Cl a N)(hA:∀x,lA a x<=3)(U M:Nat){b:Bd}{σ:Sb}{r:Int->Nat}{l:Pr}(h:Bn a N b σ r)(hU:DU b<=U)(hM:LU σ l<=M)(hl:Uq a N l){H:List gB}(hH:Ch N (Cs a b) H (l.map (·.1))):
 ∃res:Bd×Bool,iB f (enc b (l.map (·.1)) (l.map (·.2)))=some (out res.1 res.2)/\zq a N b (fun τ=>ry τ l) res:=by
 rcases fD l with rfl|⟨l',⟨s,t⟩,rfl⟩
 ·exact⟨(b,true),iL (hf.nil b),⟨fun _=>⟨⟨σ,r,h⟩,fun τ=>by simp[ry],.inl rfl⟩,fun e=>by cases e⟩⟩
 ·rw[dO]at hM hl⊢;obtain⟨ws,wt,ns,nt⟩:=hl (s,t) (by simp);have hl':Uq a N l':=fun pq hpq=>hl pq (aZ _ hpq)
  have hll:l'.length<=3*N.P.length:=by
   have q1:=hH.len;have q2:=GY (hH.nodup fun X c=>fJ _ (c σ h.self)) hH.mem;simp only[dO,aT,ai,aX]at q1;omega
  obtain⟨H',hH',hs'⟩:=hH.pop (fun k1 k2 τ hτ=>Nat.lt_trans (k1 τ hτ) (k2 τ hτ)) (l:=l'.map (·.1)) (s:=s) (by simp);obtain⟨u,v,hu,hv,s1,s2,s3,s4,s5,s6,s7⟩:=hf.step (l:=l') h ws wt ns nt hll;have k:At a N b s t u v:=⟨ws,wt,ns,nt,hu,hv⟩;obtain⟨w1,n1,f1,g1⟩:=hu.ok h ws ns;obtain⟨w2,n2,f2,g2⟩:=hv.ok h wt nt;have hps:1<=(sub σ s).length:=(ws.sub fun x _ hx=>h.wv x hx).len;rw[Ko]at hM;have hone:LU σ [(s,t)]=(sub σ s).length+(sub σ t).length:=by simp[LU]
  rw[hone]at hM;rw[aR,aR,aO,cT,aO,cT];have fail:(∃b',f (enc b (l'.map (·.1)++[s]) (l'.map (·.2)++[t]))=some (.inr (out b' false)))->(∀τ,vC a b τ->sub τ s≠sub τ t)->∃res:Bd×Bool,iB f (enc b (l'.map (·.1)++[s]) (l'.map (·.2)++[t]))=some (out res.1 res.2)/\zq a N b (fun τ=>ry τ (l'++[(s,t)])) res:=by
   rintro⟨b',e⟩ hno;refine⟨(b',false),iL e,⟨fun e=>(by cases e),fun _ τ hτ hA=>?_⟩⟩;exact hno τ hτ (uT.1 hA).2.1
  have bind:∀{x:Int}{w s' t':gB},f (enc b (l'.map (·.1)++[s]) (l'.map (·.2)++[t]))=some (.inl (enc (bs b x w) (l'.map (·.1)) (l'.map (·.2))))->zq a N b (fun τ=>sub τ s=sub τ t) (bs b x w,true)->DU (bs b x w)<DU b->
   ∃res:Bd×Bool,iB f (enc b (l'.map (·.1)++[s]) (l'.map (·.2)++[t]))=some (out res.1 res.2)/\zq a N b (fun τ=>ry τ (l'++[(s,t)])) res:=fun{x w s' t'} e R hlt=>by
   obtain⟨⟨σ',r',h'⟩,hS,_⟩:=R.yes rfl;have hd:DU (bs b x w)<U:=by omega
   obtain⟨res,e2,R2⟩:=zX.good hf hC hA (DU (bs b x w)) _ h' (aA _) (aA _) hl' (hH'.mono fun e X k τ hτ=>k τ ((hS τ).1 hτ).1);exact⟨res,(iW e).trans e2,R2.chain hS (.inr hlt) fun τ hτ=>by rw[uT];simp[ry,and_comm]⟩
  by_cases c1:u.headD 0=v.headD 0/\u.headD 0<0
  ·have hd:LU σ l'<M:=by omega
   obtain⟨res,e2,R2⟩:=zX.good hf hC hA U (LU σ l') h hU (aA _) hl' hH';refine⟨res,(iW (s1 c1)).trans e2,R2.of fun τ hτ=>?_⟩;rw[uT];simp[ry,KE h k c1.2 c1.1 hτ]
  ·by_cases hx:u.headD 0<0
   ·have hne:u.headD 0≠v.headD 0:=fun e=>c1 ⟨e,hx⟩
    by_cases hin:u.headD 0∈sub σ v
    ·exact fail (s2 hne hx hin) fun τ hτ=>Je h k hx hne hin hτ
    ·obtain⟨k1,k2,k3,k4,k5⟩:=FB h k hx hin;have hlt:=Ji (b:=b) (u:=v) hx (by rw[h.len];omega) k3 k5;exact bind (s':=s) (t':=t) (s3 hne hx hin) ⟨fun _=>⟨k1,k2,.inr hlt⟩,fun e=>by cases e⟩ hlt
   ·by_cases hy:v.headD 0<0
    ·have hne:v.headD 0≠u.headD 0:=by omega
     by_cases hin:v.headD 0∈sub σ u
     ·exact fail (s4 hx hy hin) fun τ hτ e=>Je h k.symm hy hne hin hτ e.symm
     ·obtain⟨k1,k2,k3,k4,k5⟩:=FB h k.symm hy hin;have hlt:=Ji (b:=b) (u:=u) hy (by rw[h.len];omega) k3 k5;exact bind (s':=s) (t':=t) (s5 hx hy hin) ⟨fun _=>⟨k1,fun τ=>by rw[k2 τ];exact⟨fun q=>⟨q.1,q.2.symm⟩,fun q=>⟨q.1,q.2.symm⟩⟩,.inr hlt⟩,fun e=>by cases e⟩ hlt
    ·by_cases c3:u.headD 0=v.headD 0
     ·have e:=s7 hx c3;obtain⟨x,p,eu,_,wp⟩:=w1.pos;obtain⟨y,q,ev,_,wq⟩:=w2.pos;subst eu;subst ev;have exy:x=y:=c3;subst exy;have hx':¬x<0:=hx;rw[ck]at wp wq;obtain⟨i1,i2,i3⟩:=uD wp;obtain⟨j1,j2,j3⟩:=uD wq;obtain⟨z1,z2⟩:=DY (xs:=oS a (lA a x) p) (ys:=oS a (lA a x) q) (by rw[i2,j2]);have hsz1:(sub σ (x::p)).length=(sub σ s).length:=by rw[g1 σ h.self]
      have hsz2:(sub σ (x::q)).length=(sub σ t).length:=by rw[g2 σ h.self]
      rw[i_,aj hx']at hsz1 hsz2;simp only[dN,aJ]at hsz1 hsz2;have hz:LU σ ((oS a (lA a x) p).zip (oS a (lA a x) q))=(sub σ p).length+(sub σ q).length:=by rw[G3,z1,z2,i1,j1]
      have hd:LU σ (l'++(oS a (lA a x) p).zip (oS a (lA a x) q))<M:=by rw[Ko,hz];omega
      have hok:Uq a N (l'++(oS a (lA a x) p).zip (oS a (lA a x) q)):=fun pq hpq=>by
       rcases aF.1 hpq with hpq|hpq
       ·exact hl' pq hpq
       ·obtain⟨m1,m2⟩:=gv (a:=pq.1) (b:=pq.2) hpq;obtain⟨p1,p2,ep⟩:=nH m1;obtain⟨q1,q2,eq'⟩:=nH m2;rw[i1]at ep;rw[j1]at eq';exact⟨i3 _ m1,j3 _ m2,hC _ n1 w1 hx' _ m1,hC _ n2 w2 hx' _ m2⟩
      have hH2:Ch N (Cs a b) ((x::p)::H') ((l'++(oS a (lA a x) p).zip (oS a (lA a x) q)).map (·.1)):=by
       rw[aR,z1];refine .SU hH' (by rw[i2];exact hA x) (fun e he τ hτ=>?_) (fun Y hY τ hτ=>?_) n1.mem
       ·obtain⟨p1,p2,ep⟩:=nH he;rw[i1]at ep;rw[ep];exact Fq hx'
       ·rw[g1 τ hτ];exact hs' Y hY τ hτ
      obtain⟨res,e2,R2⟩:=zX.good hf hC hA U _ h hU (aA _) hok hH2;rw[aR,aR,z1,z2]at e2;refine⟨res,(iW e).trans e2,R2.of fun τ hτ=>?_⟩;have hst:=O_ h k hx c3 (l:=(oS a (lA a x) p).zip (oS a (lA a x) q)) (fun pq hpq=>by
       obtain⟨m1,m2⟩:=gv (a:=pq.1) (b:=pq.2) hpq;exact⟨i3 _ m1,j3 _ m2⟩) (by rw[z1,i1];rfl) (by rw[z2,j1];rfl) hτ
      rw[uT,uT,<-hst];simp[ry]
     ·exact fail (s6 hx hy c3) fun τ hτ=>Ht h k hx hy c3 hτ
termination_by (U,M)
def HM(b:Bd)(x:Int):gB->List Bool->List gB->Option (List Bool×List gB)
 |[],se,td=>some (se,td)
 |m::t,se,td=>if m=x then none else if m<0/\sn se m=false/\bg b m≠[]then HM b x t (ss se m) (td++[bg b m])else HM b x t se td
def HA(se:List Bool):Nat:=se.countP fun z=>!z
theorem uP:∀{se:List Bool}{i:Nat},i<se.length->se.getD i false=false->(se.set i true).countP (fun z=>!z)<se.countP fun z=>!z
 |[],i,h,_=>by simp at h
 |z::se,0,_,h=>by
  have h':z=false:=h;simp[fk,h']
 |z::se,i+1,hi,h=>by
  have:=uP (se:=se) (i:=i) (by simpa using hi) (by simpa using h);simp only[fQ,fk];omega
theorem I5{b:Bd}{x:Int}{N:Pl}:∀(t:gB){se:List Bool}{td:List gB},se.length=N.n->(∀y∈t, -(N.n:Int)<=y)->
 (HM b x t se td=none->x∈t)/\∀se' td',HM b x t se td=some (se',td')->x∉t/\(∀y∈t,y<0->bg b y≠[]->sn se' y=true)/\se'.length=N.n/\(∀y,y<0-> -(N.n:Int)<=y->sn se y=true->sn se' y=true)/\
  (∀y,y<0-> -(N.n:Int)<=y->sn se' y=true->sn se y=true\/(bg b y≠[]/\bg b y∈td'))/\(∀w∈td,w∈td')/\(∀w∈td',w∈td\/∃y∈t,y<0/\bg b y≠[]/\w=bg b y)/\(HA se'<HA se\/(se'=se/\td'=td))
 |[],se,td,hl,hn=>⟨fun h=>by simp[HM]at h,fun se' td' h=>by
  simp only[HM,aL,dX]at h;obtain⟨rfl,rfl⟩:=h;exact⟨by simp,by simp,hl,fun _ _ _ h=>h,fun _ _ _ h=>.inl h,fun _ h=>h,fun _ h=>.inl h,.inr ⟨rfl,rfl⟩⟩⟩
 |m::t,se,td,hl,hn=>by
  have hn':∀y∈t, -(N.n:Int)<=y:=fun y hy=>hn y (aP _ hy)
  have hmN:=hn m aS;rw[HM];by_cases hm:m=x
  ·rw[ah hm];exact⟨fun _=>by rw[hm];exact aS,fun _ _ h=>by cases h⟩
  ·rw[aj hm];by_cases hc:m<0/\sn se m=false/\bg b m≠[]
   ·rw[ah hc];obtain⟨h0,hs,hb⟩:=hc;have hlm: -1-m<(se.length:Int):=by omega
    have hl':(ss se m).length=N.n:=by simp[ss,hl]
    have hg:∀{y:Int},y<0->sn (ss se m) y=if y=m then true else sn se y:=fun hy=>Ub h0 hlm hy
    obtain⟨q1,q2⟩:=I5 (b:=b) (x:=x) t (td:=td++[bg b m]) hl' hn';refine⟨fun h=>aP _ (q1 h),fun se' td' h=>?_⟩;obtain⟨k1,k2,k3,k4,k5,k6,k7,k8⟩:=q2 se' td' h;have hlt:HA (ss se m)<HA se:=uP h_ hs;refine⟨fun c=>?_,fun y hy hy0 hby=>?_,k3,fun y hy hyN hsy=>?_,fun y hy hyN hsy=>?_,fun w hw=>k6 w (aZ _ hw),fun w hw=>?_,.inl ?_⟩
    ·rcases bu.1 c with c|c
     ·exact hm c.symm
     ·exact k1 c
    ·rcases bu.1 hy with rfl|hy
     ·exact k4 y h0 hmN (by rw[hg h0,ah rfl])
     ·exact k2 y hy hy0 hby
    ·exact k4 y hy hyN (by rw[hg hy];split<;>simp[hsy])
    ·rcases k5 y hy hyN hsy with c|c
     ·rw[hg hy]at c;split at c
      ·rename_i e;exact .inr (by rw[e];exact⟨hb,k6 _ (by simp)⟩)
      ·exact .inl c
     ·exact .inr c
    ·rcases k7 w hw with c|⟨y,hy,c⟩
     ·rcases aF.1 c with c|c
      ·exact .inl c
      ·exact .inr ⟨m,aS,h0,hb,aK.1 c⟩
     ·exact .inr ⟨y,aP _ hy,c⟩
    ·rcases k8 with c|⟨c,_⟩
     ·omega
     ·rw[c];exact hlt
   ·rw[aj hc];obtain⟨q1,q2⟩:=I5 (b:=b) (x:=x) t (td:=td) hl hn';refine⟨fun h=>aP _ (q1 h),fun se' td' h=>?_⟩;obtain⟨k1,k2,k3,k4,k5,k6,k7,k8⟩:=q2 se' td' h;refine⟨fun c=>?_,fun y hy hy0 hby=>?_,k3,k4,k5,k6,fun w hw=>?_,k8⟩
    ·rcases bu.1 c with c|c
     ·exact hm c.symm
     ·exact k1 c
    ·rcases bu.1 hy with rfl|hy
     ·have hs:sn se y=true:=by
       cases hq:sn se y with
       |true=>rfl
       |false=>exact absurd ⟨hy0,hq,hby⟩ hc
      exact k4 y hy0 hmN hs
     ·exact k2 y hy hy0 hby
    ·rcases k7 w hw with c|⟨y,hy,c⟩
     ·exact .inl c
     ·exact .inr ⟨y,aP _ hy,c⟩
theorem Fx{b:Bd}{x:Int}{N:Pl}:∀(t:gB){se se':List Bool}{td td':List gB},se.length=N.n->(∀y∈t, -(N.n:Int)<=y)->HM b x t se td=some (se',td')->td'.length+HA se'<=td.length+HA se
 |[],se,se',td,td',hl,hn,h=>by
  simp only[HM,aL,dX]at h;obtain⟨rfl,rfl⟩:=h;exact aA _
 |m::t,se,se',td,td',hl,hn,h=>by
  have hn':∀y∈t, -(N.n:Int)<=y:=fun y hy=>hn y (aP _ hy)
  have hmN:=hn m aS;rw[HM]at h;split at h
  ·cases h
  ·split at h
   ·rename_i hc;have hlt:HA (ss se m)<HA se:=uP h_ hc.2.1;have i:=Fx t (se:=ss se m) (by simp[ss,hl]) hn' h;rw[ai,aX]at i;omega
   ·exact Fx t hl hn' h
structure Bk{S:Type}(b:Bd)(x:Int)(enc:List Bool->List gB->S)(f:S->Option (S⊕Bool))(N:Pl):Prop where
 nil:∀se,se.length=N.n->f (enc se [])=some (.inr false)
 step:∀{se:List Bool}{td:List gB}{u:gB},se.length=N.n->Nb N u->td.length+HA se<=N.n->f (enc se (td++[u]))=some (match HM b x u se td with|none=>.inr true|some q=>.inl (enc q.1 q.2))
def Lk(b:Bd)(x:Int)(se:List Bool)(u:gB):Prop:=x∉u/\∀y∈u,y<0->bg b y≠[]->sn se y=true
structure LI(a:gB)(N:Pl)(b:Bd)(σ:Sb)(x:Int)(t0:gB)(se:List Bool)(td:List gB):Prop where
 len:se.length=N.n
 bd:∀u∈td,Nb N u/\(x∈sub σ u->x∈sub σ t0)
 hi:td.length+HA se<=N.n+1
 mkd:∀m,m<0-> -(N.n:Int)<=m->sn se m=true->bg b m≠[]/\(bg b m∈td\/Lk b x se (bg b m))
 t0:t0∈td\/Lk b x se t0
theorem Of{a:gB}{N:Pl}{b:Bd}{σ:Sb}{r:Int->Nat}(h:Bn a N b σ r){x:Int}(hx:x<0)(hbx:bg b x=[]){se:List Bool}(hm:∀m,m<0-> -(N.n:Int)<=m->sn se m=true->bg b m≠[]/\Lk b x se (bg b m)):∀(n:Nat){m:Int},m<0-> -(N.n:Int)<=m->sn se m=true->r m<n->x∉σ m
 |0,m,_,_,_,hr=>by omega
 |n+1,m,h0,hN,hs,hr=>by
  obtain⟨hb,l1,l2⟩:=hm m h0 hN hs;obtain⟨w1,w2⟩:=h.tm m h0 hb;rw[h.val m h0 hb];intro hin;obtain⟨y,hy,⟨hy0,hxy⟩|⟨hy0,rfl⟩⟩:=oo.1 hin
  ·by_cases hby:bg b y=[]
   ·rw[h.Mz y hy0 hby]at hxy;exact l1 (by rw[aK.1 hxy];exact hy)
   ·exact Of h hx hbx hm n hy0 (w2 y hy) (l2 y hy hy0 hby) (by have:=h.rk m h0 hb y hy hy0 hby;omega) hxy
  ·exact l1 hy
theorem Bk.good{S:Type}{a:gB}{N:Pl}{b:Bd}{σ:Sb}{r:Int->Nat}{enc:List Bool->List gB->S}{f:S->Option (S⊕Bool)}(h:Bn a N b σ r){x:Int}(hx:x<0)(hbx:bg b x=[])(hf:Bk b x enc f N){t0:gB}(ht0:∀y∈t0, -(N.n:Int)<=y)(U M:Nat){se:List Bool}{td:List gB}(hU:HA se<=U)(hM:td.length<=M)(hI:LI a N b σ x t0 se td):
 ∃res,iB f (enc se td)=some res/\(res=true<->x∈sub σ t0):=by
 rcases fD td with rfl|⟨td',u,rfl⟩
 ·refine⟨false,iL (hf.nil se hI.len),⟨fun e=>(by cases e),fun hin=>?_⟩⟩;have hm:∀m,m<0-> -(N.n:Int)<=m->sn se m=true->bg b m≠[]/\Lk b x se (bg b m):=fun m h0 hN hs=>⟨(hI.mkd m h0 hN hs).1,(hI.mkd m h0 hN hs).2.resolve_left (by simp)⟩
  obtain⟨l1,l2⟩:=hI.t0.resolve_left (by simp);obtain⟨y,hy,⟨hy0,hxy⟩|⟨hy0,rfl⟩⟩:=oo.1 hin
  ·by_cases hby:bg b y=[]
   ·rw[h.Mz y hy0 hby]at hxy;exact absurd (by rw[aK.1 hxy];exact hy) l1
   ·exact absurd hxy (Of h hx hbx hm (r y+1) hy0 (ht0 y hy) (l2 y hy hy0 hby) (cZ _))
  ·exact absurd hy l1
 ·rw[dO]at hM hI⊢;obtain⟨hu,hsu⟩:=hI.bd u (by simp);have hhi:=hI.hi;rw[ai,aX]at hhi;have e:=hf.step (td:=td') (u:=u) hI.len hu h_;obtain⟨q1,q2⟩:=I5 (b:=b) (x:=x) (N:=N) u (td:=td') hI.len hu;cases hq:HM b x u se td' with
  |none=>
   rw[hq]at e;refine⟨true,iL e,⟨fun _=>hsu ?_,fun _=>rfl⟩⟩;exact oo.2 ⟨x,q1 hq,.inl ⟨hx,by rw[h.Mz x hx hbx];exact aK.2 rfl⟩⟩
  |some p=>
   obtain⟨se',td2⟩:=p;rw[hq]at e;obtain⟨k1,k2,k3,k4,k5,k6,k7,k8⟩:=q2 se' td2 hq;have mono:∀{w:gB},Lk b x se w->(∀y∈w, -(N.n:Int)<=y)->Lk b x se' w:=fun{w} hw hwN=>⟨hw.1,fun y hy hy0 hby=>k4 y hy0 (hwN y hy) (hw.2 y hy hy0 hby)⟩
   have hI':LI a N b σ x t0 se' td2:=by
    refine⟨k3,fun w hw=>?_,by have:=Fx (N:=N) u hI.len hu.le hq;omega,fun m h0 hN hs=>?_,?_⟩
    ·rcases k7 w hw with c|⟨y,hy,hy0,hby,rfl⟩
     ·exact hI.bd w (aZ _ c)
     ·refine⟨(h.tm y hy0 hby).2,fun hin=>hsu ?_⟩;exact oo.2 ⟨y,hy,.inl ⟨hy0,by rw[h.val y hy0 hby];exact hin⟩⟩
    ·rcases k5 m h0 hN hs with c|⟨c1,c2⟩
     ·obtain⟨b1,b2⟩:=hI.mkd m h0 hN c;refine⟨b1,?_⟩;rcases b2 with b2|b2
      ·rcases aF.1 b2 with b2|b2
       ·exact .inl (k6 _ b2)
       ·rw[aK.1 b2];exact .inr ⟨k1,k2⟩
      ·exact .inr (mono b2 (h.tm m h0 b1).2)
     ·exact⟨c1,.inl c2⟩
    ·rcases hI.t0 with c|c
     ·rcases aF.1 c with c|c
      ·exact .inl (k6 _ c)
      ·rw[aK.1 c];exact .inr ⟨k1,k2⟩
     ·exact .inr (mono c ht0)
   rcases k8 with hlt|⟨rfl,rfl⟩
   ·have hd:HA se'<U:=by omega
    obtain⟨res,e2,R⟩:=Bk.good h hx hbx hf ht0 (HA se') td2.length (aA _) (aA _) hI';exact⟨res,(iW e).trans e2,R⟩
   ·have hd:td2.length<M:=by simp at hM;omega
    obtain⟨res,e2,R⟩:=Bk.good h hx hbx hf ht0 U td2.length hU (aA _) hI';exact⟨res,(iW e).trans e2,R⟩
termination_by (U,M)
end Un
namespace Hu
open Tm Un
abbrev a3:gB:=[2,1,0]
def fl:T->gB
 |.v n=>[-1-(n:Int)]
 |.c=>[2]
 |.g a=>1::fl a
 |.f a b=>0::(fl a++fl b)
theorem Uu:lA a3 0=2:=rfl
theorem Uv:lA a3 1=1:=rfl
theorem Za:lA a3 2=0:=rfl
theorem vN:∀t:T,Wv a3 1 (fl t)
 |.v n=>Wv.var h_
 |.c=>Wv.je.2 ⟨by decide,Wv.nil⟩
 |.g a=>Wv.je.2 ⟨by decide,vN a⟩
 |.f a b=>Wv.je.2 ⟨by decide,(vN a).app (vN b)⟩
theorem UN{s t:T}{u w:gB}(h:fl s++u=fl t++w):s=t/\u=w:=by
 induction s generalizing t u w with
 |v n=>
  cases t with
  |v m=>
   obtain⟨h1,h2⟩:=bk h;exact⟨by rw[show n=m by omega],h2⟩
  |c=>have:=(bk h).1;omega
  |g a=>have:=(bk h).1;omega
  |f a b=>have:=(bk h).1;omega
 |c=>
  cases t with
  |v m=>have:=(bk h).1;omega
  |c=>exact⟨rfl,(bk h).2⟩
  |g a=>have:=(bk h).1;omega
  |f a b=>have:=(bk h).1;omega
 |g a ih=>
  cases t with
  |v m=>have:=(bk h).1;omega
  |c=>have:=(bk h).1;omega
  |g b=>obtain⟨rfl,e⟩:=ih (bk h).2;exact⟨rfl,e⟩
  |f b b'=>have:=(bk h).1;omega
 |f a b ih jh=>
  cases t with
  |v m=>have:=(bk h).1;omega
  |c=>have:=(bk h).1;omega
  |g c=>have:=(bk h).1;omega
  |f c d=>
   have h2:(fl a++fl b)++u=(fl c++fl d)++w:=(bk h).2;rw[aH,aH]at h2;obtain⟨rfl,e⟩:=ih h2;obtain⟨rfl,e'⟩:=jh e;exact⟨rfl,e'⟩
theorem vY{s t:T}(h:fl s=fl t):s=t:=(UN (u:=[]) (w:=[]) (by rw[h])).1
theorem Pn:∀{t:gB}{k:Nat},Wv a3 k t->∃ts:List T,ts.length=k/\(ts.map fl).flatten=t
 |t,0,h=>⟨[],rfl,by rw[h.zero];rfl⟩
 |[],k+1,h=>by simp[Wv,xZ]at h
 |x::t,k+1,h=>by
  obtain⟨h1,h2⟩:=Wv.je.1 h;obtain⟨ts,e1,e2⟩:=Pn h2;have h1':x<3:=h1;by_cases hx:x<0
  ·rw[uO hx]at e1;exact⟨.v (-1-x).toNat::ts,by rw[aJ,e1,dy],by rw[aO,ct,e2,fl,show -1-((-1-x).toNat:Int)=x by omega];rfl⟩
  ·rcases(show x=0\/x=1\/x=2 by omega)with rfl|rfl|rfl
   ·rw[Uu]at e1
    match ts,e1,e2 with
    |a::b::ts,e1,e2=>exact⟨.f a b::ts,by simpa using e1,by rw[<-e2];simp[fl]⟩
   ·rw[Uv]at e1
    match ts,e1,e2 with
    |a::ts,e1,e2=>exact⟨.g a::ts,by simpa using e1,by rw[<-e2];simp[fl]⟩
   ·rw[Za]at e1;exact⟨.c::ts,by simpa using e1,by rw[aO,ct,e2];rfl⟩
theorem L5{t:gB}(h:Wv a3 1 t):∃s,fl s=t:=by
 obtain⟨ts,e1,e2⟩:=Pn h
 match ts,e1,e2 with
 |[a],_,e2=>exact⟨a,by simpa using e2⟩
theorem vm{n:Nat}:∀{t:T},(-1-(n:Int))∈fl t<->t.has n
 |.v m=>by simp only[fl,aK,T.has];omega
 |.c=>⟨fun h=>by have h':=aK.1 h;omega,fun h=>h.elim⟩
 |.g a=>by
  rw[fl,bu,vm (t:=a)];exact⟨fun h=>h.elim (fun h=>by omega) id,.inr⟩
 |.f a b=>by
  rw[fl,bu,aF,vm (t:=a),vm (t:=b)];exact⟨fun h=>h.elim (fun h=>by omega) id,.inr⟩
theorem xI{σ:Sb}{τ:Nat->T}:∀{t:T},(∀n,t.has n->σ (-1-(n:Int))=fl (τ n))->sub σ (fl t)=fl (t.sub τ)
 |.v m,h=>by rw[fl,sub_one h_];exact h m rfl
 |.c,h=>by rw[fl,i_,aj (by decide)];rfl
 |.g a,h=>by rw[fl,i_,aj (by decide),xI (t:=a) h];rfl
 |.f a b,h=>by rw[fl,i_,aj (by decide),kN,xI (t:=a) fun n hn=>h n (.inl hn),xI (t:=b) fun n hn=>h n (.inr hn)];rfl
def Sd(σ:Sb):Nat->T:=fun n=>open Classical in if h:∃s,fl s=σ (-1-(n:Int))then h.choose else .c
theorem FG{σ:Sb}{t:T}(h:∀n,t.has n->Wv a3 1 (σ (-1-(n:Int)))):sub σ (fl t)=fl (t.sub (Sd σ)):=xI fun n hn=>by
 have hx:=L5 (h n hn);unfold Sd;rw[dif_pos hx];exact hx.choose_spec.symm
def C.pre:C->gB
 |.hole=>[]
 |.g k=>1::k.pre
 |.fl k b=>0::k.pre
 |.fr a k=>0::(Hu.fl a++k.pre)
def C.B7:C->gB
 |.hole=>[]
 |.g k=>k.B7
 |.fl k b=>k.B7++Hu.fl b
 |.fr a k=>k.B7
theorem vM:∀(k:C)(t:T),fl (k.fill t)=k.pre++(fl t++k.B7)
 |.hole,t=>by simp[C.fill,C.pre,C.B7]
 |.g k,t=>by simp[C.fill,C.pre,C.B7,fl,vM k t]
 |.fl k b,t=>by simp[C.fill,C.pre,C.B7,fl,vM k t]
 |.fr a k,t=>by simp[C.fill,C.pre,C.B7,fl,vM k t]
theorem RK{k:C}(h:k.pre=[]):k=.hole:=by cases k<;>first|rfl|cases h
theorem EU:∀(t:T){i:Nat},i<(fl t).length->∃k s,t=C.fill k s/\k.pre.length=i
 |t,0,_=>⟨.hole,t,rfl,rfl⟩
 |.v n,i+1,h=>by simp[fl]at h
 |.c,i+1,h=>by simp[fl]at h
 |.g a,i+1,h=>by
  obtain⟨k,s,rfl,e⟩:=EU a (i:=i) (by simpa[fl]using h);exact⟨.g k,s,rfl,by simp[C.pre,e]⟩
 |.f a b,i+1,h=>by
  by_cases c:i<(fl a).length
  ·obtain⟨k,s,rfl,e⟩:=EU a c;exact⟨.fl k b,s,rfl,by simp[C.pre,e]⟩
  ·obtain⟨k,s,rfl,e⟩:=EU b (i:=i-(fl a).length) (by simp[fl]at h;omega);exact⟨.fr a k,s,rfl,by simp[C.pre,e];omega⟩
theorem Qb{t:T}{p u q:gB}(h:fl t=p++(u++q))(hu:Wv a3 1 u):∃k s,t=C.fill k s/\k.pre=p/\fl s=u/\k.B7=q:=by
 have hl:=hu.len;obtain⟨k,s,rfl,e⟩:=EU t (i:=p.length) (by rw[h];simp only[ai];omega);rw[vM]at h;obtain⟨h1,h2⟩:=List.append_inj h e;obtain⟨h3,h4⟩:=(vN s).uniq hu h2;exact⟨k,s,rfl,h1,h3,h4⟩
theorem RL(t:T):oS a3 1 (fl t)=[fl t]:=by
 have e:xZ a3 (fl t) 1=some []:=vN t;rw[oS,e];simp[oS]
theorem Vn(s t:T):oS a3 2 (fl s++fl t)=[fl s,fl t]:=by
 have e:xZ a3 (fl s++fl t) 1=some (fl t):=(vN s).skip _;rw[oS,e];simp only[ai,d_];rw[RL,dS]
end Hu
