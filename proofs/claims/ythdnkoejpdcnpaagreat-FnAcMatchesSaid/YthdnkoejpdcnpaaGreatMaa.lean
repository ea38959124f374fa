/- A part of the proof about FnAcMatches (Al, LaAbs). -/
import Derived.Below
import Derived.CallsIn
import Derived.ControlIn
import Derived.Laws.AppendOwn
import Derived.Laws.Cells
import Derived.Laws.World
import Derived.Maps.OwnSet
import Derived.Orders
import Derived.OrdersIn
import Derived.RangeFuncIn
import Derived.RangeFuncLeaves
import Derived.RangeFuncOwn
import Derived.RangeFuncRecord
set_option linter.all false
noncomputable section
theorem gq{p:Prop}(h:p:=by omega):p:=h
abbrev aa:=@Option.bind_some
abbrev ah:=@if_pos
abbrev ai:=@List.length_cons
abbrev aj:=@List.length_append
abbrev ak:=@List.getD_eq_getElem?_getD
abbrev aq:=@Int.toNat_natCast
abbrev au:=@Nat.le_refl
abbrev av:=@Bool.false_eq_true
abbrev ay:=@if_neg
abbrev az:=@decide_eq_true_eq
abbrev aA:=@List.getElem?_eq_getElem
abbrev aB:=@Option.bind_eq_some_iff
abbrev aC:=@List.getElem_mem
abbrev aF:=@Option.map_eq_some_iff
abbrev aG:=@Go.Result.andThen_ok
abbrev aH:=@List.drop_eq_getElem_cons
abbrev aI:=@if_false
abbrev aJ:=@List.take_succ_eq_append_getElem
abbrev aK:=@List.length_map
abbrev aL:=@List.append_assoc
abbrev aM:=@List.mem_append
abbrev aN:=@congrArg
abbrev aO:=@if_true
abbrev aP:=@List.getElem?_eq_some_iff
abbrev aQ:=@Option.some.injEq
abbrev aR:=@List.flatten_cons
abbrev aS:=@List.map_append
abbrev aT:=@List.getElem?_append_left
abbrev aU:=@Go.Sem.run_bind
abbrev aV:=@Option.map_some
abbrev aW:=@List.length_take
abbrev aX:=@Nat.zero_add
abbrev aY:=@List.mem_map
abbrev aZ:=@List.map_cons
abbrev a_:=@Go.run_underlying
abbrev bf:=@List.append_nil
abbrev bg:=@Go.Sem.run_pure
abbrev bh:=@List.take_length
abbrev bk:=@List.getElem?_map
abbrev bl:=@decide_true
abbrev bp:=@List.drop_of_length_le
abbrev bq:=@List.mem_singleton
abbrev bt:=@List.nil_append
abbrev bu:=@Array.getElem?_eq_some_iff
abbrev bw:=@List.mem_cons
abbrev bz:=@List.getElem?_eq_none
abbrev bA:=@decide_false
abbrev bB:=@List.getD_cons_zero
abbrev bC:=@Nat.add_mul
abbrev bE:=@List.mem_of_mem_take
abbrev bF:=@List.mem_append_left
abbrev bG:=@List.length_nil
abbrev bH:=@List.flatMap_cons
abbrev bI:=@List.getElem?_append_right
abbrev bJ:=@List.length_singleton
abbrev bK:=@List.length_drop
abbrev bL:=@Bool.and_eq_true
abbrev bM:=@List.flatten_append
abbrev bN:=@Nat.le_trans
abbrev bO:=@List.drop_zero
abbrev bP:=@List.take_append_drop
abbrev bQ:=@List.length_pos_iff
abbrev bR:=@List.mem_of_getElem?
abbrev bS:=@List.getElem?_take
abbrev bT:=@decide_eq_false_iff_not
abbrev bU:=@List.length_eq_zero_iff
abbrev bV:=@List.eq_nil_of_length_eq_zero
abbrev bW:=@List.map_congr_left
abbrev bX:=@List.mem_flatten
abbrev bY:=@List.flatten_nil
abbrev bZ:=@List.take_of_length_le
abbrev b_:=@List.singleton_append
abbrev cc:=@List.length_range
abbrev cg:=@List.cons_append
abbrev ck:=@List.getElem_of_mem
abbrev cm:=@Array.getD_eq_getD_getElem?
abbrev cn:=@Nat.mul_le_mul_right
abbrev cp:=@List.replicate_succ
abbrev cq:=@List.drop_append_of_le_length
abbrev cr:=@Bool.true_and
abbrev ct:=@Go.Value.slice.injEq
abbrev cu:=@Nat.lt_or_ge
abbrev cw:=@Option.isSome_none
abbrev cz:=@List.getElem?_drop
abbrev cA:=@List.mem_of_mem_drop
abbrev cB:=@List.getElem?_of_mem
abbrev cC:=@Nat.le_mul_of_pos_right
abbrev cE:=@Iff.rfl
abbrev cF:=@and_self
abbrev cG:=@Array.ext'
abbrev cH:=@List.getElem?_set
abbrev cI:=@List.nodup_cons
abbrev cK:=@Array.getElem?_eq_getElem
abbrev cL:=@beq_self_eq_true
abbrev cM:=@List.all_eq_true
abbrev cN:=@List.take_append_of_le_length
abbrev cO:=@of_decide_eq_true
abbrev cQ:=@Nat.add_assoc
abbrev cS:=@List.not_mem_nil
abbrev cT:=@Go.run_program
abbrev cU:=@List.mapM_cons
abbrev cV:=@List.mem_append_right
abbrev cW:=@Go.heap_alloc_old
abbrev cZ:=@Nat.add_zero
abbrev c_:=@List.map_map
abbrev dc:=@List.size_toArray
abbrev de:=@List.perm_cons_erase
abbrev dg:=@List.mem_cons_of_mem
abbrev dh:=@Go.World.cell?_of_block
abbrev di:=@Option.bind_eq_bind
abbrev dm:=@List.getElem?_range
abbrev dn:=@List.ext_getElem
abbrev dr:=@Go.heap_alloc_new
abbrev dw:=@Go.World.alloc_eq
abbrev dx:=@List.map_nil
abbrev dy:=@List.mem_filter
abbrev dz:=@Go.Addr.add_lit
abbrev dA:=@List.nodup_append
abbrev dB:=@List.ext_getElem?
abbrev dD:=@Array.size_append
abbrev dF:=@beq_iff_eq
abbrev dG:=@Array.getElem?_append_left
abbrev dH:=@decide_eq_decide
abbrev dI:=@List.mem_flatMap
abbrev dJ:=@List.perm_append_left_iff
abbrev dK:=@List.pairwise_iff_getElem
abbrev dL:=@List.take_succ_cons
abbrev dM:=@List.length_set
abbrev dN:=@List.mem_replicate
abbrev dO:=@List.getElem?_replicate
abbrev dP:=@List.set_eq_take_append_cons_drop
abbrev dQ:=@bne_self_eq_false
abbrev dR:=@List.flatten_singleton
abbrev dS:=@List.eraseIdx_eq_take_drop_succ
abbrev dU:=@List.perm_append_comm
abbrev dV:=@Array.getElem?_modify
abbrev dW:=@Nat.testBit_zero
abbrev dX:=@List.filter_cons
abbrev dY:=@List.drop_subset
abbrev dZ:=@Array.toList_map
abbrev d_:=@Nat.zero_le
abbrev ec:=@Go.run_newObj
abbrev ee:=@decide_eq_false
abbrev ef:=@List.cons.injEq
abbrev ei:=@beq_eq_false_iff_ne
abbrev ej:=@List.getD_cons_succ
abbrev ek:=@getElem!_pos
abbrev en:=@Nat.zero_mul
abbrev eo:=@Int.le_of_lt
abbrev er:=@Nat.mul_le_mul
abbrev eu:=@List.drop_left
abbrev ew:=@Nat.lt_of_lt_of_le
abbrev ey:=@List.map_singleton
abbrev ez:=@List.mem_or_eq_of_mem_set
abbrev eA:=@Go.grownCap_le_maxLen
abbrev eB:=@List.take_add_one
abbrev eC:=@List.getElem_take
abbrev eE:=@List.drop_sublist
abbrev eF:=@Go.setRow_heap
abbrev eG:=@Go.run_storeCells_at
abbrev eH:=@List.flatMap_nil
abbrev eL:=@List.drop_length
abbrev eM:=@Nat.add_sub_cancel_left
abbrev eN:=@Option.map_none
abbrev eO:=@Bool.or_eq_true
abbrev eP:=@List.length_filter_le
abbrev eR:=@List.eraseIdx_sublist
abbrev eS:=@Classical.choose_spec
abbrev eT:=@true_and
abbrev eU:=@Nat.mul_one
abbrev eV:=@Int.le_refl
abbrev eW:=@List.take_zero
abbrev eX:=@List.perm_cons
abbrev eY:=@List.mem_range
abbrev eZ:=@List.drop_drop
abbrev e_:=@Nat.pow_le_pow_right
abbrev fc:=@List.pairwise_append
abbrev fe:=@List.getElem?_zipIdx
abbrev ff:=@Go.size_zeroCells
abbrev fh:=@Bool.and_self
abbrev fk:=@Go.wpIn_mono
abbrev fo:=@Nat.eq_zero_or_pos
abbrev fq:=@List.pairwise_cons
abbrev fA:=@List.mem_cons_self
abbrev fB:=@Go.grownBy_keeps_cells
abbrev fC:=@Go.run_makeSlice
abbrev fD:=@Nat.le_of_eq
abbrev fE:=@List.any_eq_false
abbrev fF:=@Bool.not_eq_true'
abbrev fG:=@List.zipIdx_cons
abbrev fH:=@List.any_eq_true
abbrev fI:=@Int.natCast_zero
abbrev fJ:=@Go.setRow_other
abbrev fK:=@Nat.min_eq_left
abbrev fL:=@List.take_left'
abbrev fM:=@Array.getElem?_setIfInBounds
abbrev fN:=List Int
abbrev fO:=List fN
abbrev fP:=fN×Int×Int
abbrev fQ:=fN×fN
abbrev fR:=Nat×Nat
abbrev fS:=Int⊕Bool
abbrev fT:=fN×Int
abbrev fU:=List fO
abbrev fV:=Bool×Int×Int
abbrev fW:=List Nat
abbrev fZ:=fO×Int
abbrev f_:=fN×Int×Int×Int
abbrev ga:=Int×Int
abbrev gh:=fU×Int
abbrev gi:=Int×Int×Int×fN
abbrev gj:=Int×fO
abbrev gm:=Int⊕fP
abbrev gn:=fU×Bool
abbrev gp:=fO×fO×Int
namespace kJ
open Go
inductive D where
 |any
 |lit (v:Value)
 |sl (e:Nat) (nl:Option Bool) (xs:List D)
 |agg (cs:List D)
 deriving Inhabited
abbrev Own:=Nat->Nat->Prop
def one:Value->Bool
 |.agg _=>false
 |.tuple _=>false
 |_=>true
def jI(O:Own)(w:World)(b o:Nat)(vs:List Value):Prop:=
 ∀j v,vs[j]?=some v->w.cell? ⟨b,o+j,none⟩=some v/\¬O b (o+j)/\one v=true
def HA(n cap:Nat):Prop:=n<=cap/\cap<2^63
def IG(nl:Option Bool)(a:Option Addr)(cap:Nat):Prop:=
 match nl with
 |none=>True
 |some true=>a=none/\cap=0
 |some false=>a≠none
mutual
def D.ok(O:Own)(w:World):D->Value->Prop
 |.any,v=>one v=true
 |.lit u,v=>v=u/\one u=true
 |.agg cs,v=>∃vs:Array Value,v=.agg vs/\D.gO O w cs vs.toList
 |.sl e nl xs,v=>∃a cap,v=.slice a xs.length cap/\HA xs.length cap/\IG nl a cap/\
  (xs=[]\/∃b o,a=some ⟨b,o,none⟩/\D.row O w b o e xs)
def D.gO(O:Own)(w:World):List D->List Value->Prop
 |[],vs=>vs=[]
 |c::cs,vs=>∃v r,vs=v::r/\one v=true/\D.ok O w c v/\D.gO O w cs r
def D.row(O:Own)(w:World)(b o e:Nat):List D->Prop
 |[]=>True
 |.agg cs::xs=>(∃vs,vs.length=e/\jI O w b o vs/\D.gO O w cs vs)/\D.row O w b (o+e) e xs
 |x::xs=>(∃v,e=1/\jI O w b o [v]/\D.ok O w x v)/\D.row O w b (o+e) e xs
end
def D.Dn(O:Own)(w:World)(x:D)(vs:List Value):Prop:=
 match x with
 |.agg cs=>D.gO O w cs vs
 |x=>∃v,vs=[v]/\D.ok O w x v
theorem D.lY{O:Own}{w:World}{b o e:Nat}{x:D}{xs:List D}:D.row O w b o e (x::xs)<->
 (∃vs,vs.length=e/\jI O w b o vs/\D.Dn O w x vs)/\D.row O w b (o+e) e xs:=by
 cases x with
 |agg cs=>simp only[D.row,D.Dn]
 |any=>
  simp only[D.row,D.Dn];refine and_congr_left fun _=>⟨?_,?_⟩
  ·rintro⟨v,rfl,h1,h2⟩;exact⟨[v],rfl,h1,v,rfl,h2⟩
  ·rintro⟨vs,rfl,h1,v,rfl,h2⟩;exact⟨v,rfl,h1,h2⟩
 |lit u=>
  simp only[D.row,D.Dn];refine and_congr_left fun _=>⟨?_,?_⟩
  ·rintro⟨v,rfl,h1,h2⟩;exact⟨[v],rfl,h1,v,rfl,h2⟩
  ·rintro⟨vs,rfl,h1,v,rfl,h2⟩;exact⟨v,rfl,h1,h2⟩
 |sl e' nl ys=>
  simp only[D.row,D.Dn];refine and_congr_left fun _=>⟨?_,?_⟩
  ·rintro⟨v,rfl,h1,h2⟩;exact⟨[v],rfl,h1,v,rfl,h2⟩
  ·rintro⟨vs,rfl,h1,v,rfl,h2⟩;exact⟨v,rfl,h1,h2⟩
theorem jI.mono{O O':Own}{w w':World}{b o:Nat}{vs:List Value}
 (h:∀b o v,w.cell? ⟨b,o,none⟩=some v->¬O b o->w'.cell? ⟨b,o,none⟩=some v/\¬O' b o)
 (hc:jI O w b o vs):jI O' w' b o vs:=fun j v hj=>
 have h1:=h _ _ _ (hc j v hj).1 (hc j v hj).2.1;⟨h1.1,h1.2,(hc j v hj).2.2⟩
mutual
theorem D.jH{O O':Own}{w w':World}
 (h:∀b o v,w.cell? ⟨b,o,none⟩=some v->¬O b o->w'.cell? ⟨b,o,none⟩=some v/\¬O' b o):
 ∀(x:D)(v:Value),D.ok O w x v->D.ok O' w' x v
 |.any,v=>fun hx=>by simpa[D.ok]using hx
 |.lit u,v=>fun hx=>by simpa[D.ok]using hx
 |.agg cs,v=>fun hx=>by
  simp only[D.ok]at hx⊢;obtain⟨vs,h1,h2⟩:=hx;exact⟨vs,h1,D.jb h cs _ h2⟩
 |.sl e nl xs,v=>fun hx=>by
  simp only[D.ok]at hx⊢;obtain⟨a,cap,h1,h2,h3,h4⟩:=hx;refine⟨a,cap,h1,h2,h3,?_⟩;rcases h4 with h4|⟨b,o,h4,h5⟩
  ·exact .inl h4
  ·exact .inr ⟨b,o,h4,D.vC h b o e xs h5⟩
theorem D.jb{O O':Own}{w w':World}
 (h:∀b o v,w.cell? ⟨b,o,none⟩=some v->¬O b o->w'.cell? ⟨b,o,none⟩=some v/\¬O' b o):
 ∀(cs:List D)(vs:List Value),D.gO O w cs vs->D.gO O' w' cs vs
 |[],vs=>fun hx=>by simpa[D.gO]using hx
 |c::cs,vs=>fun hx=>by
  simp only[D.gO]at hx⊢;obtain⟨v,r,h1,h0,h2,h3⟩:=hx;exact⟨v,r,h1,h0,D.jH h c _ h2,D.jb h cs r h3⟩
theorem D.vC{O O':Own}{w w':World}
 (h:∀b o v,w.cell? ⟨b,o,none⟩=some v->¬O b o->w'.cell? ⟨b,o,none⟩=some v/\¬O' b o):
 ∀(b o e:Nat)(xs:List D),D.row O w b o e xs->D.row O' w' b o e xs
 |_,_,_,[]=>fun _=>by simp[D.row]
 |b,o,e,.agg cs::xs=>fun hx=>by
  simp only[D.row]at hx⊢;obtain⟨⟨vs,h1,h2,h3⟩,h4⟩:=hx;exact⟨⟨vs,h1,h2.mono h,D.jb h cs vs h3⟩,D.vC h b (o+e) e xs h4⟩
 |b,o,e,.any::xs=>fun hx=>by
  simp only[D.row]at hx⊢;obtain⟨⟨v,h1,h2,h3⟩,h4⟩:=hx;exact⟨⟨v,h1,h2.mono h,D.jH h .any v h3⟩,D.vC h b (o+e) e xs h4⟩
 |b,o,e,.lit u::xs=>fun hx=>by
  simp only[D.row]at hx⊢;obtain⟨⟨v,h1,h2,h3⟩,h4⟩:=hx;exact⟨⟨v,h1,h2.mono h,D.jH h (.lit u) v h3⟩,D.vC h b (o+e) e xs h4⟩
 |b,o,e,.sl e' nl ys::xs=>fun hx=>by
  simp only[D.row]at hx⊢;obtain⟨⟨v,h1,h2,h3⟩,h4⟩:=hx;exact⟨⟨v,h1,h2.mono h,D.jH h (.sl e' nl ys) v h3⟩,D.vC h b (o+e) e xs h4⟩
end
inductive AV where
 |hM
 |d (x:D)
 |own (e id:Nat) (xs:List D)
 |ptr (id off:Nat)
 |mm (e id off len:Nat)
 |pv (cs:List D)
 |pa (cs:List AV)
 |agg (cs:List AV)
 |l_ (cs:List AV)
 |fn (f:Nat) (first cap:List AV)
 |jM (e id n:Nat)
 |kH (id k off:Nat)
 |Ac (e:Nat) (xs:List D)
 |dp (x:D)
 |mp (id:Nat)
 deriving Inhabited
inductive Place where
 |no
 |blk (b:Nat)
 |tok (v:Value) (n:Nat)
 |oh (v:Value) (n:Nat) (bs:List Nat)
def Place.at:Place->Value->Nat->Prop
 |.tok u n,v,m=>u=v/\n=m
 |.oh u n _,v,m=>u=v/\n=m
 |_,_,_=>False
abbrev gI:=Nat->Place
inductive Ob where
 |dead
 |obj (t:Nat) (cs:List AV)
 |tok (t e n:Nat)
 |ij (t e n:Nat) (cs:List D)
 |oh (t e n:Nat) (cs:List AV)
 |tc (e n:Nat) (cs:List AV)
 |mp (P:Program) (k:Nat) (es:List (Lit×D))
 deriving Inhabited
abbrev gA:=List (Nat×Ob)
def sat:gA->Nat->Ob
 |[],_=>.dead
 |(j,x)::r,i=>if i=j then x else sat r i
def sset:gA->Nat->Ob->gA
 |[],i,ob=>[(i,ob)]
 |(j,x)::r,i,ob=>if i=j then(i,ob)::r else if i<j then(i,ob)::(j,x)::r else(j,x)::sset r i ob
theorem iJ(s:gA)(i j:Nat)(ob:Ob):sat (sset s i ob) j=if j=i then ob else sat s j:=by
 induction s with
 |nil=>simp[sset,sat]
 |cons p r ih=>
  obtain⟨q,x⟩:=p;simp only[sset];split
  ·rename_i h;subst h;simp only[sat];split<;>simp_all
  ·split
   ·simp only[sat]
   ·simp only[sat,ih];repeat' split
    all_goals simp_all
mutual
def AV.ok(β:gI)(O:Own)(w:World):AV->Value->Prop
 |.hM,_=>True
 |.d x,v=>D.ok O w x v
 |.own e id xs,v=>D.ok O w (.sl e none xs) v/\∃u n,(β id).at u n/\xs.length<=n/\(xs.length=n->v=u)
 |.ptr id off,v=>∃b,β id=.blk b/\v=.pointer (some ⟨b,off,none⟩)
 |.mm _ id off len,v=>∃b cap,β id=.blk b/\(len<=cap/\cap<2^63)/\v=.slice (some ⟨b,off,none⟩) len cap
 |.pv cs,v=>∃b o vs,v=.pointer (some ⟨b,o,none⟩)/\jI O w b o vs/\D.gO O w cs vs
 |.pa cs,v=>∃b o vs,v=.pointer (some ⟨b,o,none⟩)/\jI O w b o vs/\AV.gO β O w cs vs
 |.agg cs,v=>∃vs:Array Value,v=.agg vs/\(∀u∈vs.toList,one u=true)/\AV.gO β O w cs vs.toList
 |.l_ cs,v=>∃vs:Array Value,v=.tuple vs/\AV.gO β O w cs vs.toList
 |.fn f first cap,v=>∃fs cs:Array Value,v=.func (.func f) fs cs/\AV.gO β O w first fs.toList/\AV.gO β O w cap cs.toList
 |.jM _ id n,v=>∃u m,(β id).at u m/\n<=m/\(n=m->v=u)/\((∃a,v=.slice a 0 0/\n=0)\/∃b cap,v=.slice (some ⟨b,0,none⟩) n cap/\n<=cap/\cap<2^63)
 |.kH id k off,v=>∃u m b off',(β id).at u m/\k<=m/\v=.pointer (some ⟨b,off',none⟩)/\(m=k->∃cap,u=.slice (some ⟨b,0,none⟩) m cap/\off'=off)
 |.Ac e xs,v=>∃a,v=.slice a xs.length xs.length/\D.ok O w (.sl e none xs) v
 |.dp _,_=>True
 |.mp id,v=>∃b,β id=.blk b/\v=.map (some b)
def AV.gO(β:gI)(O:Own)(w:World):List AV->List Value->Prop
 |[],vs=>vs=[]
 |x::xs,vs=>∃v r,vs=v::r/\AV.ok β O w x v/\AV.gO β O w xs r
end
def lF:Place->Place->Prop
 |.no,_=>True
 |.blk b,p=>p=.blk b
 |.tok u n,p=>∃u' n',p=.tok u' n'/\n<=n'/\(n=n'->u'=u)
 |.oh u n _,p=>∃u' n' bs',p=.oh u' n' bs'/\n<=n'/\(n=n'->u'=u)
theorem lF.refl(p:Place):lF p p:=by
 cases p with
 |no=>trivial
 |blk b=>rfl
 |tok u n=>exact⟨u,n,rfl,au _,fun _=>rfl⟩
 |oh u n bs=>exact⟨u,n,bs,rfl,au _,fun _=>rfl⟩
theorem lF.trans{p q r:Place}(h:lF p q)(k:lF q r):lF p r:=by
 cases p with
 |no=>trivial
 |blk b=>cases h;cases k;rfl
 |tok u n=>
  obtain⟨u',n',rfl,h1,h2⟩:=h;obtain⟨u'',n'',rfl,k1,k2⟩:=k;refine⟨u'',n'',rfl,gq,fun e=>?_⟩;rw[k2 gq,h2 gq]
 |oh u n bs=>
  obtain⟨u',n',b1,rfl,h1,h2⟩:=h;obtain⟨u'',n'',b2,rfl,k1,k2⟩:=k;refine⟨u'',n'',b2,rfl,gq,fun e=>?_⟩;rw[k2 gq,h2 gq]
theorem lF.at{p q:Place}(h:lF p q){u:Value}{n:Nat}(hp:p.at u n):∃u' n',q.at u' n'/\n<=n'/\(n=n'->u'=u):=by
 cases p with
 |no=>exact hp.elim
 |blk b=>exact hp.elim
 |tok u0 n0=>
  obtain⟨rfl,rfl⟩:=hp;obtain⟨u',n',rfl,h1,h2⟩:=h;exact⟨u',n',⟨rfl,rfl⟩,h1,h2⟩
 |oh u0 n0 bs=>
  obtain⟨rfl,rfl⟩:=hp;obtain⟨u',n',b1,rfl,h1,h2⟩:=h;exact⟨u',n',⟨rfl,rfl⟩,h1,h2⟩
mutual
theorem AV.jH{β β':gI}{O O':Own}{w w':World}
 (h:∀b o v,w.cell? ⟨b,o,none⟩=some v->¬O b o->w'.cell? ⟨b,o,none⟩=some v/\¬O' b o)
 (hb:∀id,lF (β id) (β' id)):∀(x:AV)(v:Value),AV.ok β O w x v->AV.ok β' O' w' x v
 |.hM,v=>fun _=>by simp[AV.ok]
 |.d x,v=>fun hx=>by
  simp only[AV.ok]at hx⊢;exact D.jH h x v hx
 |.own e id xs,v=>fun hx=>by
  simp only[AV.ok]at hx⊢;obtain⟨h1,u,n,h2,h3,h4⟩:=hx;obtain⟨u',n',h5,h6,h7⟩:=(hb id).at h2;exact⟨D.jH h _ _ h1,u',n',h5,gq,fun e=>by rw[h7 gq];exact h4 gq⟩
 |.ptr id off,v=>fun hx=>by
  simp only[AV.ok]at hx⊢;obtain⟨b,h1,h2⟩:=hx;have hp:=hb id;rw[h1]at hp;exact⟨b,hp,h2⟩
 |.mm e id off len,v=>fun hx=>by
  simp only[AV.ok]at hx⊢;obtain⟨b,cap,h1,h2⟩:=hx;have hp:=hb id;rw[h1]at hp;exact⟨b,cap,hp,h2⟩
 |.pv cs,v=>fun hx=>by
  simp only[AV.ok]at hx⊢;obtain⟨b,o,vs,h1,h2,h3⟩:=hx;exact⟨b,o,vs,h1,h2.mono h,D.jb h _ _ h3⟩
 |.pa cs,v=>fun hx=>by
  simp only[AV.ok]at hx⊢;obtain⟨b,o,vs,h1,h2,h3⟩:=hx;exact⟨b,o,vs,h1,h2.mono h,AV.jb h hb cs _ h3⟩
 |.agg cs,v=>fun hx=>by
  simp only[AV.ok]at hx⊢;obtain⟨vs,h1,h0,h2⟩:=hx;exact⟨vs,h1,h0,AV.jb h hb cs _ h2⟩
 |.l_ cs,v=>fun hx=>by
  simp only[AV.ok]at hx⊢;obtain⟨vs,h1,h2⟩:=hx;exact⟨vs,h1,AV.jb h hb cs _ h2⟩
 |.fn f first cap,v=>fun hx=>by
  simp only[AV.ok]at hx⊢;obtain⟨fs,cs,h1,h2,h3⟩:=hx;exact⟨fs,cs,h1,AV.jb h hb first _ h2,AV.jb h hb cap _ h3⟩
 |.jM e id n,v=>fun hx=>by
  simp only[AV.ok]at hx⊢;obtain⟨u,m,h1,h2,h3,h4⟩:=hx;obtain⟨u',m',h5,h6,h7⟩:=(hb id).at h1;exact⟨u',m',h5,gq,fun e=>by rw[h7 gq];exact h3 gq,h4⟩
 |.kH id k off,v=>fun hx=>by
  simp only[AV.ok]at hx⊢;obtain⟨u,m,b,off',h1,h2,h0,h3⟩:=hx;obtain⟨u',m',h5,h6,h7⟩:=(hb id).at h1;refine⟨u',m',b,off',h5,gq,h0,fun e=>?_⟩;have hm:m=m':=by omega
  subst hm;rw[h7 rfl];exact h3 e
 |.Ac e xs,v=>fun hx=>by
  simp only[AV.ok]at hx⊢;obtain⟨a,h1,h2⟩:=hx;exact⟨a,h1,D.jH h _ v h2⟩
 |.dp x,v=>fun _=>by simp[AV.ok]
 |.mp id,v=>fun hx=>by
  simp only[AV.ok]at hx⊢;obtain⟨b,h1,h2⟩:=hx;have hp:=hb id;rw[h1]at hp;exact⟨b,hp,h2⟩
theorem AV.jb{β β':gI}{O O':Own}{w w':World}
 (h:∀b o v,w.cell? ⟨b,o,none⟩=some v->¬O b o->w'.cell? ⟨b,o,none⟩=some v/\¬O' b o)
 (hb:∀id,lF (β id) (β' id)):∀(xs:List AV)(vs:List Value),AV.gO β O w xs vs->AV.gO β' O' w' xs vs
 |[],vs=>fun hx=>by simpa[AV.gO]using hx
 |x::xs,vs=>fun hx=>by
  simp only[AV.gO]at hx⊢;obtain⟨v,r,h1,h2,h3⟩:=hx;exact⟨v,r,h1,AV.jH h hb x v h2,AV.jb h hb xs r h3⟩
end
mutual
def AV.jU(ρ:Nat->Option Nat):AV->AV
 |.hM=>.hM
 |.d x=>.d x
 |.own e id xs=>match ρ id with|some j=>.own e j xs|none=>.d (.sl e none xs)
 |.ptr id off=>match ρ id with|some j=>.ptr j off|none=>.hM
 |.mm e id off len=>match ρ id with|some j=>.mm e j off len|none=>.hM
 |.pv cs=>.pv cs
 |.pa cs=>.pa (AV.ia ρ cs)
 |.agg cs=>.agg (AV.ia ρ cs)
 |.l_ cs=>.l_ (AV.ia ρ cs)
 |.fn f a b=>.fn f (AV.ia ρ a) (AV.ia ρ b)
 |.jM e id n=>match ρ id with|some j=>.jM e j n|none=>.hM
 |.kH id k off=>match ρ id with|some j=>.kH j k off|none=>.hM
 |.Ac e xs=>.Ac e xs
 |.dp x=>.dp x
 |.mp id=>match ρ id with|some j=>.mp j|none=>.hM
def AV.ia(ρ:Nat->Option Nat):List AV->List AV
 |[]=>[]
 |x::xs=>AV.jU ρ x::AV.ia ρ xs
end
mutual
theorem AV.vf{β β':gI}{O:Own}{w:World}{ρ:Nat->Option Nat}(hr:∀i j,ρ i=some j->β' j=β i):
 ∀(x:AV)(v:Value),AV.ok β O w x v->AV.ok β' O w (x.jU ρ) v
 |.hM,v=>fun _=>by simp[AV.jU,AV.ok]
 |.d x,v=>fun hx=>by simpa[AV.jU,AV.ok]using hx
 |.own e id xs,v=>fun hx=>by
  simp only[AV.ok,AV.jU]at hx⊢;cases hq:ρ id with
  |none=>exact hx.1
  |some j=>simp only[AV.ok];rw[hr _ _ hq];exact hx
 |.ptr id off,v=>fun hx=>by
  simp only[AV.ok,AV.jU]at hx⊢;cases hq:ρ id with
  |none=>simp[AV.ok]
  |some j=>simp only[AV.ok];rw[hr _ _ hq];exact hx
 |.mm e id off len,v=>fun hx=>by
  simp only[AV.ok,AV.jU]at hx⊢;cases hq:ρ id with
  |none=>simp[AV.ok]
  |some j=>simp only[AV.ok];rw[hr _ _ hq];exact hx
 |.pv cs,v=>fun hx=>by simpa[AV.jU,AV.ok]using hx
 |.pa cs,v=>fun hx=>by
  simp only[AV.ok,AV.jU]at hx⊢;obtain⟨b,o,vs,h1,h2,h3⟩:=hx;exact⟨b,o,vs,h1,h2,AV.tW hr cs _ h3⟩
 |.agg cs,v=>fun hx=>by
  simp only[AV.ok,AV.jU]at hx⊢;obtain⟨vs,h1,h0,h2⟩:=hx;exact⟨vs,h1,h0,AV.tW hr cs _ h2⟩
 |.l_ cs,v=>fun hx=>by
  simp only[AV.ok,AV.jU]at hx⊢;obtain⟨vs,h1,h2⟩:=hx;exact⟨vs,h1,AV.tW hr cs _ h2⟩
 |.fn f a b,v=>fun hx=>by
  simp only[AV.ok,AV.jU]at hx⊢;obtain⟨fs,cs,h1,h2,h3⟩:=hx;exact⟨fs,cs,h1,AV.tW hr a _ h2,AV.tW hr b _ h3⟩
 |.jM e id n,v=>fun hx=>by
  simp only[AV.ok,AV.jU]at hx⊢;cases hq:ρ id with
  |none=>simp[AV.ok]
  |some j=>simp only[AV.ok];rw[hr _ _ hq];exact hx
 |.kH id k off,v=>fun hx=>by
  simp only[AV.ok,AV.jU]at hx⊢;cases hq:ρ id with
  |none=>simp[AV.ok]
  |some j=>simp only[AV.ok];rw[hr _ _ hq];exact hx
 |.Ac e xs,v=>fun hx=>by
  simp only[AV.ok,AV.jU]at hx⊢;exact hx
 |.dp x,v=>fun _=>by simp[AV.jU,AV.ok]
 |.mp id,v=>fun hx=>by
  simp only[AV.ok,AV.jU]at hx⊢;cases hq:ρ id with
  |none=>simp[AV.ok]
  |some j=>simp only[AV.ok];rw[hr _ _ hq];exact hx
theorem AV.tW{β β':gI}{O:Own}{w:World}{ρ:Nat->Option Nat}(hr:∀i j,ρ i=some j->β' j=β i):
 ∀(xs:List AV)(vs:List Value),AV.gO β O w xs vs->AV.gO β' O w (AV.ia ρ xs) vs
 |[],vs=>fun hx=>by simpa[AV.ia,AV.gO]using hx
 |x::xs,vs=>fun hx=>by
  simp only[AV.gO,AV.ia]at hx⊢;obtain⟨v,r,h1,h2,h3⟩:=hx;exact⟨v,r,h1,AV.vf hr x v h2,AV.tW hr xs r h3⟩
end
def AV.cells:AV->Option (List AV)
 |.d (.agg cs)=>some (cs.map .d)
 |.agg cs=>some cs
 |.hM=>none
 |.l_ _=>none
 |.dp _=>none
 |x=>some [x]
def AV.qc:List AV->Option (List D)
 |[]=>some []
 |.d x::xs=>(AV.qc xs).map (x::·)
 |_::_=>none
def AV.mk(cs:List AV):AV:=
 match AV.qc cs with
 |some ds=>.d (.agg ds)
 |none=>.agg cs
def own(β:gI)(s:gA)(b o:Nat):Prop:=
 ∃id,match sat s id with
  |.dead=>False
  |.obj _ _=>β id=.blk b
  |.tok _ e n=>∃cap,β id=.tok (.slice (some ⟨b,0,none⟩) n cap) n/\n*e<=o
  |.ij _ _ n _=>∃cap,β id=.tok (.slice (some ⟨b,0,none⟩) n cap) n
  |.oh _ e n _=>∃cap bs,β id=.oh (.slice (some ⟨b,0,none⟩) n cap) n bs/\n*e<=o
  |.tc _ n _=>∃v bs,β id=.oh v n bs/\((∃cap,v=.slice (some ⟨b,0,none⟩) n cap/\0<cap)\/b∈bs)
  |.mp _ _ _=>False
def gw(β:gI)(s:gA)(id b:Nat):Prop:=
 match sat s id with
 |.dead=>False
 |.obj _ _=>β id=.blk b
 |.tok _ _ n=>∃cap,β id=.tok (.slice (some ⟨b,0,none⟩) n cap) n
 |.ij _ _ n _=>∃cap,β id=.tok (.slice (some ⟨b,0,none⟩) n cap) n
 |.oh _ _ n _=>∃v bs,β id=.oh v n bs/\((∃cap,v=.slice (some ⟨b,0,none⟩) n cap)\/b∈bs)
 |.tc _ n _=>∃v bs,β id=.oh v n bs/\((∃cap,v=.slice (some ⟨b,0,none⟩) n cap/\0<cap)\/b∈bs)
 |.mp _ _ _=>β id=.blk b
theorem own.block{β:gI}{s:gA}{b o:Nat}(h:own β s b o):∃id,gw β s id b:=by
 obtain⟨id,h⟩:=h;refine⟨id,?_⟩;unfold gw;cases hs:sat s id with
 |dead=>rw[hs]at h;exact h
 |obj t cs=>rw[hs]at h;exact h
 |tok t e n=>rw[hs]at h;obtain⟨cap,h1,_⟩:=h;exact⟨cap,h1⟩
 |ij t e n cs=>rw[hs]at h;exact h
 |oh t e n cs=>rw[hs]at h;obtain⟨cap,bs,h1,_⟩:=h;exact⟨_,bs,h1,.inl ⟨cap,rfl⟩⟩
 |tc e n cs=>rw[hs]at h;exact h
 |mp P k es=>rw[hs]at h;exact h.elim
def S5(w:World)(t e n:Nat)(u:Value):Prop:=
 (u=.slice none 0 0/\n=0)\/∃b cap vs,u=.slice (some ⟨b,0,none⟩) n cap/\w.heap[b]?=some (.cells vs t (0,0))/\
  vs.size=cap*e/\n<=cap/\cap<2^63/\∀v∈vs.toList,one v=true
def Pr(O:Own)(w:World)(t e n:Nat)(u:Value)(cs:List D):Prop:=
 (u=.slice none 0 0/\n=0)\/∃b cap vs,u=.slice (some ⟨b,0,none⟩) n cap/\w.heap[b]?=some (.cells vs t (0,0))/\
  vs.size=cap*e/\n<=cap/\cap<2^63/\(∀v∈vs.toList,one v=true)/\∃pre rest,vs.toList=pre++rest/\D.gO O w cs pre
def FX(β:gI)(O:Own)(w:World)(cs:List AV)(vs:List Value):Prop:=∃pre rest,vs=pre++rest/\AV.gO β O w cs pre
theorem FX.of{β:gI}{O:Own}{w:World}{cs:List AV}{vs:List Value}(h:AV.gO β O w cs vs):FX β O w cs vs:=⟨vs,[],by simp,h⟩
theorem FX.imp{β β':gI}{O O':Own}{w w':World}{cs cs':List AV}{vs:List Value}(h:FX β O w cs vs)(f:∀vs,AV.gO β O w cs vs->AV.gO β' O' w' cs' vs):FX β' O' w' cs' vs:=
 let⟨pre,rest,h1,h2⟩:=h;⟨pre,rest,h1,f _ h2⟩
mutual
def NV(w:World):D->Value->List Nat->Prop
 |.any,_,_=>False
 |.agg _,_,_=>False
 |.lit u,v,bs=>v=u/\one u=true/\bs=[]
 |.sl e nl xs,v,bs=>∃a cap,v=.slice a xs.length cap/\HA xs.length cap/\IG nl a cap/\
  ((cap=0/\xs=[]/\bs=[])\/∃b vs t bs',a=some ⟨b,0,none⟩/\bs=b::bs'/\w.heap[b]?=some (.cells vs t (0,0))/\vs.size=cap*e/\
   (∀v∈vs.toList,one v=true)/\NR w e xs vs.toList bs')
def NC(w:World):List D->List Value->List Nat->Prop
 |[],vs,bs=>vs=[]/\bs=[]
 |c::cs,vs,bs=>∃v r b1 b2,vs=v::r/\bs=b1++b2/\NV w c v b1/\NC w cs r b2
def NR(w:World)(e:Nat):List D->List Value->List Nat->Prop
 |[],_,bs=>bs=[]
 |.agg cs::xs,vs,bs=>∃us r b1 b2,vs=us++r/\us.length=e/\bs=b1++b2/\NC w cs us b1/\NR w e xs r b2
 |x::xs,vs,bs=>∃v r b1 b2,vs=v::r/\e=1/\bs=b1++b2/\NV w x v b1/\NR w e xs r b2
end
def NX(β:gI)(O:Own)(w:World):AV->Value->List Nat->Prop
 |.dp d,v,bs=>NV w d v bs
 |x,v,bs=>AV.ok β O w x v/\bs=[]
def tD(β:gI)(O:Own)(w:World):List AV->List Value->List Nat->Prop
 |[],_,bs=>bs=[]
 |x::xs,vs,bs=>∃v r b1 b2,vs=v::r/\bs=b1++b2/\NX β O w x v b1/\tD β O w xs r b2
def Ee(β:gI)(O:Own)(w:World)(t e n:Nat)(u:Value)(bs:List Nat)(cs:List AV):Prop:=
 cs.length=n*e/\((u=.slice none 0 0/\n=0/\bs=[])\/∃b cap vs,u=.slice (some ⟨b,0,none⟩) n cap/\w.heap[b]?=some (.cells vs t (0,0))/\
  vs.size=cap*e/\n<=cap/\cap<2^63/\(∀v∈vs.toList,one v=true)/\(b::bs).Nodup/\tD β O w cs vs.toList bs)
def Ef(β:gI)(O:Own)(w:World)(e n:Nat)(u:Value)(bs:List Nat)(cs:List AV):Prop:=
 cs.length=n*e/\(((∃a,u=.slice a 0 0)/\n=0/\bs=[])\/∃b cap vs t,u=.slice (some ⟨b,0,none⟩) n cap/\w.heap[b]?=some (.cells vs t (0,0))/\
  vs.size=cap*e/\n<=cap/\cap<2^63/\(∀v∈vs.toList,one v=true)/\0<cap/\(b::bs).Nodup/\tD β O w cs vs.toList bs)
def PG(v:Value):Option (DataW Value×List MemPlace):=some (.held v,[])
noncomputable instance Wx:DecidableEq Lit:=fun a b=>Classical.propDecidable (a=b)
def wB{α:Type}:List (Lit×α)->Lit->Option α
 |[],_=>none
 |(k,x)::r,kl=>if k=kl then some x else wB r kl
def R2{α:Type}(kl:Lit)(es:List (Lit×α)):List (Lit×α):=es.filter fun p=>!decide (p.1=kl)
theorem JA{α:Type}{kl l:Lit}:∀{es:List (Lit×α)},wB (R2 kl es) l=if l=kl then none else wB es l
 |[]=>by simp[R2,wB]
 |(k,x)::r=>by
  have ih:=JA (kl:=kl) (l:=l) (es:=r);unfold R2 at ih⊢;rw[dX];by_cases hk:k=kl
  ·subst hk;simp only[bl,Bool.not_true,av,aI,ih,wB];by_cases hl:l=k
   ·simp[hl]
   ·have:k≠l:=fun e=>hl e.symm
    simp[hl,this]
  ·simp only[hk,bA,Bool.not_false,aO,wB,ih];by_cases hl:k=l
   ·subst hl;simp[hk]
   ·simp[hl]
theorem Fb{α:Type}{kl:Lit}{x:α}:∀{es:List (Lit×α)},wB es kl=some x->kl∈es.map (·.1)
 |[],h=>by simp[wB]at h
 |(k,y)::r,h=>by
  unfold wB at h;split at h
  ·rename_i e;simp[e]
  ·simp[Fb h]
def yL(O:Own)(w:World)(P:Program)(k:Nat)(es:List (Lit×D))(b:Nat):Prop:=
 ∃E:DataW Value,w.ownsMap P k PG b (Maps.size E) E/\∀kl,match wB es kl with
  |none=>Maps.has E kl=false
  |some x=>∃v,(∀z,E.atKey kl z=.held v)/\one v=true/\D.ok O w x v
theorem yL.block{O:Own}{w:World}{P:Program}{k:Nat}{es:List (Lit×D)}{b:Nat}(h:yL O w P k es b):∃xs c,w.heap[b]?=some (.map xs c):=
 let⟨_,⟨xs,c,h1,_⟩,_⟩:=h;⟨xs,c,h1⟩
theorem yL.imp{O O':Own}{w w':World}{P:Program}{k:Nat}{es:List (Lit×D)}{b:Nat}(hb:w'.heap[b]?=w.heap[b]?)(hd:∀x v,D.ok O w x v->D.ok O' w' x v)
 (h:yL O w P k es b):yL O' w' P k es b:=by
 obtain⟨E,⟨xs,c,h1,h2⟩,h3⟩:=h;refine⟨E,⟨xs,c,by rw[hb,h1],h2⟩,fun kl=>?_⟩;have:=h3 kl;cases hm:wB es kl with
 |none=>rw[hm]at this;exact this
 |some x=>rw[hm]at this;obtain⟨v,k1,k2,k3⟩:=this;exact⟨v,k1,k2,hd _ _ k3⟩
def tR(β:gI)(O:Own)(w:World)(id:Nat):Ob->Prop
 |.dead=>β id=.no
 |.obj t cs=>∃b vs,β id=.blk b/\w.heap[b]?=some (.cells vs t (0,0))/\(∀v∈vs.toList,one v=true)/\FX β O w cs vs.toList
 |.tok t e n=>∃u,β id=.tok u n/\S5 w t e n u
 |.ij t e n cs=>∃u,β id=.tok u n/\cs.length=n*e/\Pr O w t e n u cs
 |.oh t e n cs=>∃u bs,β id=.oh u n bs/\(∀b∈bs,∃vs t',w.heap[b]?=some (.cells vs t' (0,0)))/\Ee β O w t e n u bs cs
 |.tc e n cs=>∃u bs,β id=.oh u n bs/\(∀b∈bs,∃vs t',w.heap[b]?=some (.cells vs t' (0,0)))/\Ef β O w e n u bs cs
 |.mp P k es=>∃b,β id=.blk b/\yL O w P k es b
mutual
theorem NV.congr{w w':World}:∀{x:D}{v:Value}{bs:List Nat},(∀b∈bs,w'.heap[b]?=w.heap[b]?)->NV w x v bs->NV w' x v bs
 |.any,_,_=>fun _ h=>h.elim
 |.agg _,_,_=>fun _ h=>h.elim
 |.lit u,_,_=>fun _ h=>h
 |.sl e nl xs,v,bs=>fun hb h=>by
  simp only[NV]at h⊢;obtain⟨a,cap,h1,h2,h3,h4⟩:=h;refine⟨a,cap,h1,h2,h3,?_⟩;rcases h4 with h4|⟨b,vs,t,bs',h4,h5,h6,h7,h8,h9⟩
  ·exact .inl h4
  ·subst h5;exact .inr ⟨b,vs,t,bs',h4,rfl,by rw[hb b (by simp)];exact h6,h7,h8,NR.congr (fun b' hb'=>hb b' (by simp[hb'])) h9⟩
theorem NC.congr{w w':World}:∀{xs:List D}{vs:List Value}{bs:List Nat},(∀b∈bs,w'.heap[b]?=w.heap[b]?)->NC w xs vs bs->NC w' xs vs bs
 |[],_,_=>fun _ h=>h
 |c::cs,vs,bs=>fun hb h=>by
  simp only[NC]at h⊢;obtain⟨v,r,b1,b2,h1,h2,h3,h4⟩:=h;subst h2;exact⟨v,r,b1,b2,h1,rfl,NV.congr (fun b h=>hb b (by simp[h])) h3,NC.congr (fun b h=>hb b (by simp[h])) h4⟩
theorem NR.congr{w w':World}{e:Nat}:∀{xs:List D}{vs:List Value}{bs:List Nat},(∀b∈bs,w'.heap[b]?=w.heap[b]?)->NR w e xs vs bs->NR w' e xs vs bs
 |[],_,_=>fun _ h=>h
 |.agg cs::xs,vs,bs=>fun hb h=>by
  simp only[NR]at h⊢;obtain⟨us,r,b1,b2,h1,h0,h2,h3,h4⟩:=h;subst h2;exact⟨us,r,b1,b2,h1,h0,rfl,NC.congr (fun b h=>hb b (by simp[h])) h3,NR.congr (fun b h=>hb b (by simp[h])) h4⟩
 |.any::xs,vs,bs=>fun hb h=>by
  simp only[NR]at h⊢;obtain⟨v,r,b1,b2,h1,h0,h2,h3,h4⟩:=h;exact h3.elim
 |.lit u::xs,vs,bs=>fun hb h=>by
  have hc:=fun v b=>NV.congr (w:=w) (w':=w') (x:=.lit u) (v:=v) (bs:=b)
  simp only[NR]at h⊢;obtain⟨v,r,b1,b2,h1,h0,h2,h3,h4⟩:=h;subst h2;exact⟨v,r,b1,b2,h1,h0,rfl,hc v b1 (fun b h=>hb b (by simp[h])) h3,NR.congr (fun b h=>hb b (by simp[h])) h4⟩
 |.sl e' nl ys::xs,vs,bs=>fun hb h=>by
  have hc:=fun v b=>NV.congr (w:=w) (w':=w') (x:=.sl e' nl ys) (v:=v) (bs:=b)
  simp only[NR]at h⊢;obtain⟨v,r,b1,b2,h1,h0,h2,h3,h4⟩:=h;subst h2;exact⟨v,r,b1,b2,h1,h0,rfl,hc v b1 (fun b h=>hb b (by simp[h])) h3,NR.congr (fun b h=>hb b (by simp[h])) h4⟩
end
theorem NX.imp{β β':gI}{O O':Own}{w w':World}{x x':AV}{v:Value}{bs:List Nat}(hb:∀b∈bs,w'.heap[b]?=w.heap[b]?)
 (hx:(∃d,x=.dp d/\x'=.dp d)\/(∀d,x≠ .dp d)/\(∀d,x'≠ .dp d)/\(AV.ok β O w x v->AV.ok β' O' w' x' v)) (h:NX β O w x v bs):NX β' O' w' x' v bs:=by
 rcases hx with⟨d,rfl,rfl⟩|⟨h1,h2,h3⟩
 ·exact NV.congr hb h
 ·have e1:AV.ok β O w x v/\bs=[]:=by cases x<;>first|exact h|exact absurd rfl (h1 _)
  have e2:AV.ok β' O' w' x' v/\bs=[]:=⟨h3 e1.1,e1.2⟩;cases x'<;>first|exact e2|exact absurd rfl (h2 _)
theorem tD.imp{β β':gI}{O O':Own}{w w':World}{f:AV->AV}(hf:∀x v,((∃d,x=.dp d/\f x=.dp d)\/(∀d,x≠ .dp d)/\(∀d,f x≠ .dp d)/\(AV.ok β O w x v->AV.ok β' O' w' (f x) v))):
 ∀{xs:List AV}{vs:List Value}{bs:List Nat},(∀b∈bs,w'.heap[b]?=w.heap[b]?)->tD β O w xs vs bs->tD β' O' w' (xs.map f) vs bs
 |[],_,_=>fun _ h=>h
 |x::xs,vs,bs=>fun hb h=>by
  simp only[tD,aZ]at h⊢;obtain⟨v,r,b1,b2,h1,h2,h3,h4⟩:=h;subst h2;exact⟨v,r,b1,b2,h1,rfl,h3.imp (fun b h=>hb b (by simp[h])) (hf x v),tD.imp hf (fun b h=>hb b (by simp[h])) h4⟩
theorem Ee.imp{β β':gI}{O O':Own}{w w':World}{f:AV->AV}{t e n:Nat}{u:Value}{bs:List Nat}{cs:List AV}
 (hf:∀x v,((∃d,x=.dp d/\f x=.dp d)\/(∀d,x≠ .dp d)/\(∀d,f x≠ .dp d)/\(AV.ok β O w x v->AV.ok β' O' w' (f x) v)))
 (hb:∀b∈bs,w'.heap[b]?=w.heap[b]?) (hm:∀b cap,u=.slice (some ⟨b,0,none⟩) n cap->w'.heap[b]?=w.heap[b]?) (h:Ee β O w t e n u bs cs):Ee β' O' w' t e n u bs (cs.map f):=by
 obtain⟨h0,h⟩:=h;refine⟨by simpa using h0,?_⟩;rcases h with h|⟨b,cap,vs,h1,h2,h3,h4,h5,h6,h7,h8⟩
 ·exact .inl h
 ·exact .inr ⟨b,cap,vs,h1,by rw[hm b cap h1];exact h2,h3,h4,h5,h6,h7,tD.imp hf hb h8⟩
theorem Ef.imp{β β':gI}{O O':Own}{w w':World}{f:AV->AV}{e n:Nat}{u:Value}{bs:List Nat}{cs:List AV}
 (hf:∀x v,((∃d,x=.dp d/\f x=.dp d)\/(∀d,x≠ .dp d)/\(∀d,f x≠ .dp d)/\(AV.ok β O w x v->AV.ok β' O' w' (f x) v)))
 (hb:∀b∈bs,w'.heap[b]?=w.heap[b]?) (hm:∀b cap,u=.slice (some ⟨b,0,none⟩) n cap->0<cap->w'.heap[b]?=w.heap[b]?) (h:Ef β O w e n u bs cs):Ef β' O' w' e n u bs (cs.map f):=by
 obtain⟨h0,h⟩:=h;refine⟨by simpa using h0,?_⟩;rcases h with h|⟨b,cap,vs,t,h1,h2,h3,h4,h5,h6,h9,h7,h8⟩
 ·exact .inl h
 ·exact .inr ⟨b,cap,vs,t,h1,by rw[hm b cap h1 h9];exact h2,h3,h4,h5,h6,h9,h7,tD.imp hf hb h8⟩
theorem xQ{β β':gI}{O O':Own}{w w':World}(h:∀x v,AV.ok β O w x v->AV.ok β' O' w' x v)(x:AV)(v:Value):
 ((∃d,x=.dp d/\x=.dp d)\/(∀d,x≠ .dp d)/\(∀d,x≠ .dp d)/\(AV.ok β O w x v->AV.ok β' O' w' x v)):=by
 cases x with
 |dp d=>exact .inl ⟨d,rfl,rfl⟩
 |_=>exact .inr ⟨fun d h=>(nomatch h),fun d h=>(nomatch h),h _ v⟩
def Ec(w:World):=(w.os,w.output,w.tape)
structure Ctx where
 O:Own
 β:gI
 s:gA
 w:World
 k:Nat
 ro:Option Nat:=none
 dom:Nat:=0
 nm:Bool:=false
def Ctx.sV(C:Ctx):Fence:={fn:=fun _=>True,depth:=none,alive:=false,round:=C.ro}
def LO(D:Nat):Deferred:={target:=.collected D,args:=#[]}
def Marks(C:Ctx)(ds:List Deferred):Prop:=
 (C.nm=true->ds=[])/\∃Ds:List Nat,ds=Ds.map LO/\Ds.Nodup/\∀D∈Ds,C.dom<=D/\D<C.w.heap.size/\C.w.heap[D]?=some (.deferred (some []))/\∀id,¬gw C.β C.s id D
theorem Marks.nil{C:Ctx}:Marks C []:=⟨fun _=>rfl,[],rfl,.nil,fun _ h=>by cases h⟩
def Ctx.gD(C:Ctx)(β:gI)(s:gA):Own:=fun b o=>C.O b o\/own β s b o
structure Inv(C:Ctx)(β:gI)(s:gA)(w:World):Prop where
 size:C.w.heap.size<=w.heap.size
 io:Ec w=Ec C.w
 keep:∀b o v,C.w.cell? ⟨b,o,none⟩=some v->¬own C.β C.s b o->w.cell? ⟨b,o,none⟩=some v
 sk:∀b,b<C.w.heap.size->(∀id,¬gw C.β C.s id b)->w.heap[b]?=C.w.heap[b]?
 qb:∀b o,own β s b o->own C.β C.s b o\/C.w.heap.size<=b
 tH:∀id b,gw β s id b->(∃i,gw C.β C.s i b)\/C.w.heap.size<=b
 pl:∀id,id<C.k->lF (C.β id) (β id)
 low:∀b o,C.O b o->b<C.w.heap.size/\¬own C.β C.s b o
 obs:∀id,tR β (C.gD β s) w id (sat s id)
 inj:∀i j b,gw β s i b->gw β s j b->i=j
structure St(C:Ctx)(β:gI)(env:List AV)(s:gA)(a:Act)(w:World):Prop where
 defers:Marks C a.defers
 inv:Inv C β s w
 len:a.tmps.size=env.length
 env:∀i x,env[i]?=some x->AV.ok β (C.gD β s) w x (a.tmps.getD i undef)
theorem Inv.tE{C:Ctx}{β:gI}{s:gA}{w:World}(h:Inv C β s w){id b:Nat}(hb:gw β s id b):b<w.heap.size:=by
 have ho:=h.obs id;unfold gw at hb;cases hs:sat s id with
 |dead=>rw[hs]at hb;exact hb.elim
 |obj t cs=>
  rw[hs]at hb ho;obtain⟨b',vs,h1,h2,_,_⟩:=ho;rw[hb]at h1;cases h1;exact(bu.1 h2).1
 |tok t e n=>
  rw[hs]at hb ho;obtain⟨cap,hb⟩:=hb;obtain⟨u,h1,h2⟩:=ho;rw[hb]at h1;cases h1;rcases h2 with⟨h2,_⟩|⟨b',cap',vs,h2,h3,_⟩
  ·cases h2
  ·cases h2;exact(bu.1 h3).1
 |ij t e n cs=>
  rw[hs]at hb ho;obtain⟨cap,hb⟩:=hb;obtain⟨u,h1,_,h2⟩:=ho;rw[hb]at h1;cases h1;rcases h2 with⟨h2,_⟩|⟨b',cap',vs,h2,h3,_⟩
  ·cases h2
  ·cases h2;exact(bu.1 h3).1
 |oh t e n cs=>
  rw[hs]at hb ho;obtain⟨v,bs,hb,hb2⟩:=hb;obtain⟨u,bs',h1,h0,_,h2⟩:=ho;rw[hb]at h1;cases h1;rcases hb2 with⟨cap,rfl⟩|hb2
  ·rcases h2 with⟨h2,_⟩|⟨b',cap',vs,h2,h3,_⟩
   ·cases h2
   ·cases h2;exact(bu.1 h3).1
  ·obtain⟨vs,t',h3⟩:=h0 b hb2;exact(bu.1 h3).1
 |tc e n cs=>
  rw[hs]at hb ho;obtain⟨v,bs,hb,hb2⟩:=hb;obtain⟨u,bs',h1,h0,_,h2⟩:=ho;rw[hb]at h1;cases h1;rcases hb2 with⟨cap,rfl,hc0⟩|hb2
  ·rcases h2 with⟨⟨_,h2⟩,_⟩|⟨b',cap',vs,t',h2,h3,_⟩
   ·simp only[ct]at h2;omega
   ·cases h2;exact(bu.1 h3).1
  ·obtain⟨vs,t',h3⟩:=h0 b hb2;exact(bu.1 h3).1
 |mp P k es=>
  rw[hs]at hb ho;obtain⟨b',h1,h2⟩:=ho;rw[hb]at h1;cases h1;obtain⟨xs,c,h3⟩:=h2.block;exact(bu.1 h3).1
theorem Inv.G3{C:Ctx}{β:gI}{s:gA}{w:World}(h:Inv C β s w){b o:Nat}(hb:own β s b o):b<w.heap.size:=
 let⟨_,hb⟩:=hb.block;h.tE hb
theorem rL{w:World}{b o:Nat}{v:Value}(h:w.cell? ⟨b,o,none⟩=some v):b<w.heap.size:=
 World.block_lt_of_cell? w _ h
structure lM(β:gI)(s:gA)(w:World)(β':gI)(s':gA)(w':World):Prop where
 size:w.heap.size<=w'.heap.size
 io:Ec w'=Ec w
 keep:∀b o v,w.cell? ⟨b,o,none⟩=some v->¬own β s b o->w'.cell? ⟨b,o,none⟩=some v
 sk:∀b,b<w.heap.size->(∀id,¬gw β s id b)->w'.heap[b]?=w.heap[b]?
 qb:∀b o,own β' s' b o->own β s b o\/w.heap.size<=b
 tH:∀id b,gw β' s' id b->(∃i,gw β s i b)\/w.heap.size<=b
 pl:∀id,lF (β id) (β' id)
theorem lM.stays{C:Ctx}{β β':gI}{s s':gA}{w w':World}(m:lM β s w β' s' w'):
 ∀b o v,w.cell? ⟨b,o,none⟩=some v->¬C.gD β s b o->w'.cell? ⟨b,o,none⟩=some v/\¬C.gD β' s' b o:=by
 intro b o v hc hn;have hlt:=rL hc;refine⟨m.keep b o v hc fun h=>hn (.inr h),fun h=>?_⟩;rcases h with h|h
 ·exact hn (.inl h)
 ·rcases m.qb b o h with h|h
  ·exact hn (.inr h)
  ·omega
theorem lM.ok{C:Ctx}{β β':gI}{s s':gA}{w w':World}(m:lM β s w β' s' w'){x:AV}{v:Value}
 (h:AV.ok β (C.gD β s) w x v):AV.ok β' (C.gD β' s') w' x v:=AV.jH m.stays m.pl x v h
theorem lM.N6{C:Ctx}{β β':gI}{s s':gA}{w w':World}(m:lM β s w β' s' w'){xs:List D}{vs:List Value}
 (h:D.gO (C.gD β s) w xs vs):D.gO (C.gD β' s') w' xs vs:=D.jb m.stays xs vs h
theorem lM.gO{C:Ctx}{β β':gI}{s s':gA}{w w':World}(m:lM β s w β' s' w'){xs:List AV}{vs:List Value}
 (h:AV.gO β (C.gD β s) w xs vs):AV.gO β' (C.gD β' s') w' xs vs:=AV.jb m.stays m.pl xs vs h
theorem Inv.move{C:Ctx}{β β':gI}{s s':gA}{w w':World}(h:Inv C β s w)(m:lM β s w β' s' w')
 (hobs:∀id,tR β' (C.gD β' s') w' id (sat s' id)) (hinj:∀i j b,gw β' s' i b->gw β' s' j b->i=j):Inv C β' s' w' where
 size:=bN h.size m.size
 io:=m.io.trans h.io
 keep:=fun b o v hc hn=>by
  have h1:=h.keep b o v hc hn;refine m.keep b o v h1 fun ho=>?_
  rcases h.qb b o ho with h2|h2
  ·exact hn h2
  ·have:=rL hc;omega
 sk:=fun b hb hn=>by
  have h1:=h.sk b hb hn;rw[<-h1];refine m.sk b (ew hb h.size) fun id hid=>?_
  rcases h.tH id b hid with⟨i,hi⟩|h2
  ·exact hn i hi
  ·omega
 qb:=fun b o ho=>by
  rcases m.qb b o ho with h1|h1
  ·exact h.qb b o h1
  ·exact .inr (bN h.size h1)
 tH:=fun id b hb=>by
  rcases m.tH id b hb with⟨i,h1⟩|h1
  ·exact h.tH i b h1
  ·exact .inr (bN h.size h1)
 pl:=fun id hid=>(h.pl id hid).trans (m.pl id)
 low:=h.low
 obs:=hobs
 inj:=hinj
theorem St.move{C:Ctx}{β β':gI}{env:List AV}{s s':gA}{a:Act}{w w':World}(h:St C β env s a w)(m:lM β s w β' s' w')
 (hobs:∀id,tR β' (C.gD β' s') w' id (sat s' id)) (hinj:∀i j b,gw β' s' i b->gw β' s' j b->i=j):St C β' env s' a w' where
 defers:=h.defers
 inv:=h.inv.move m hobs hinj
 len:=h.len
 env:=fun i x hx=>m.ok (h.env i x hx)
theorem St.put{C:Ctx}{β:gI}{env:List AV}{s:gA}{a:Act}{w:World}(h:St C β env s a w){x:AV}{v:Value}
 (hx:AV.ok β (C.gD β s) w x v) (d:Option Tmp):
 St C β (match d with|some d=>env.set d x|none=>env) s (a.put d v) w:=by
 cases d with
 |none=>exact h
 |some d=>
  refine⟨h.defers,h.inv,by simp[Act.put,h.len],fun i y hy=>?_⟩;simp only[Act.put];rw[cH]at hy;by_cases hdi:d=i
  ·subst hdi;simp only[aO]at hy;split at hy
   ·rename_i hlt;cases hy;have:d<a.tmps.size:=by rw[h.len];exact hlt
    simpa[cm,fM,this]using hx
   ·cases hy
  ·simp only[hdi,aI]at hy;have:=h.env i y hy;simpa[cm,fM,hdi]using this
theorem tR.uS{C:Ctx}{β β':gI}{s s':gA}{w w':World}(m:lM β s w β' s' w'){id:Nat}{ob:Ob}
 (h:tR β (C.gD β s) w id ob) (hb:β' id=β id)
 (hh:∀b,gw β s id b->w'.heap[b]?=w.heap[b]?) (hs:sat s id=ob):tR β' (C.gD β' s') w' id ob:=by
 cases ob with
 |dead=>exact hb.trans h
 |obj t cs=>
  obtain⟨b,vs,h1,h2,h0,h3⟩:=h;have hbl:gw β s id b:=by unfold gw;rw[hs];exact h1
  exact⟨b,vs,by rw[hb,h1],by rw[hh b hbl,h2],h0,h3.imp fun _ h=>m.gO h⟩
 |tok t e n=>
  obtain⟨u,h1,h2⟩:=h;refine⟨u,by rw[hb,h1],?_⟩;rcases h2 with h2|⟨b,cap,vs,h2,h3,h4⟩
  ·exact .inl h2
  ·have hbl:gw β s id b:=by unfold gw;rw[hs];exact⟨cap,by rw[h1,h2]⟩
   exact .inr ⟨b,cap,vs,h2,by rw[hh b hbl,h3],h4⟩
 |ij t e n cs=>
  obtain⟨u,h1,hl,h2⟩:=h;refine⟨u,by rw[hb,h1],hl,?_⟩;rcases h2 with h2|⟨b,cap,vs,h2,h3,h4,h5,h6,h7,pre,rest,h8,h9⟩
  ·exact .inl h2
  ·have hbl:gw β s id b:=by unfold gw;rw[hs];exact⟨cap,by rw[h1,h2]⟩
   exact .inr ⟨b,cap,vs,h2,by rw[hh b hbl,h3],h4,h5,h6,h7,pre,rest,h8,m.N6 h9⟩
 |oh t e n cs=>
  obtain⟨u,bs,h1,h0,h2⟩:=h;have hbs:∀b∈bs,w'.heap[b]?=w.heap[b]?:=fun b hb'=>hh b (by unfold gw;rw[hs];exact⟨u,bs,h1,.inr hb'⟩)
  refine⟨u,bs,by rw[hb,h1],fun b hb'=>by rw[hbs b hb'];exact h0 b hb',?_⟩;have:=h2.imp (f:=fun x=>x) (xQ fun x v=>m.ok) hbs fun b cap hu=>hh b (by unfold gw;rw[hs];exact⟨u,bs,h1,.inl ⟨cap,hu⟩⟩)
  simpa using this
 |tc e n cs=>
  obtain⟨u,bs,h1,h0,h2⟩:=h;have hbs:∀b∈bs,w'.heap[b]?=w.heap[b]?:=fun b hb'=>hh b (by unfold gw;rw[hs];exact⟨u,bs,h1,.inr hb'⟩)
  refine⟨u,bs,by rw[hb,h1],fun b hb'=>by rw[hbs b hb'];exact h0 b hb',?_⟩;have:=h2.imp (f:=fun x=>x) (xQ fun x v=>m.ok) hbs fun b cap hu h0=>hh b (by unfold gw;rw[hs];exact⟨u,bs,h1,.inl ⟨cap,hu,h0⟩⟩)
  simpa using this
 |mp P k es=>
  obtain⟨b,h1,h2⟩:=h;have hbl:gw β s id b:=by unfold gw;rw[hs];exact h1
  exact⟨b,by rw[hb,h1],h2.imp (hh b hbl) fun x v h=>D.jH m.stays _ _ h⟩
theorem lM.grow{β:gI}{s:gA}{w w':World}(hs:w.heap.size<=w'.heap.size)(hio:Ec w'=Ec w)
 (hk:∀b,b<w.heap.size->w'.heap[b]?=w.heap[b]?):lM β s w β s w':=by
 refine⟨hs,hio,fun b o v hc _=>?_,fun b hb _=>hk b hb,fun _ _ h=>.inl h,fun id _ h=>.inl ⟨id,h⟩,fun _=>.refl _⟩;rw[<-hc];exact dh (hk b (rL hc))
theorem St.grow{C:Ctx}{β:gI}{env:List AV}{s:gA}{a:Act}{w w':World}(h:St C β env s a w)(hs:w.heap.size<=w'.heap.size)(hio:Ec w'=Ec w)
 (hk:∀b,b<w.heap.size->w'.heap[b]?=w.heap[b]?):St C β env s a w':=by
 have m:lM β s w β s w':=.grow hs hio hk;exact h.move m (fun id=>(h.inv.obs id).uS m rfl (fun b hb=>hk b (h.inv.tE hb)) rfl) h.inv.inj
theorem St.drew{C:Ctx}{β:gI}{env:List AV}{s:gA}{a:Act}{w:World}(h:St C β env s a w):St C β env s a {w with drawn:=w.drawn+1}:=
 h.grow (au _) rfl fun _ _=>rfl
def Lv:Obj->Bool
 |.map _ _=>true
 |_=>false
def Q9(o:Obj):Prop:=o.isCells=false/\Lv o=false
theorem JH{w:World}{row:Option Nat}(hr:∀r,row=some r->∃o:Obj,w.heap[r]?=some o/\Q9 o):∀r,row=some r->∃o:Obj,w.heap[r]?=some o/\o.isCells=false:=
 fun r e=>let⟨o,h1,h2⟩:=hr r e;⟨o,h1,h2.1⟩
theorem ze{w w':World}{row:Option Nat}(hg:w.grownBy w' row)(hr:∀r,row=some r->∃o:Obj,w.heap[r]?=some o/\Q9 o){b:Nat}{xs:Array MapEntry}{c:Nat}(h:w.heap[b]?=some (.map xs c)):w'.heap[b]?=w.heap[b]?:=by
 refine hg.block b (bu.1 h).1 fun e=>?_
 obtain⟨o,h1,h2⟩:=hr b e.symm;rw[h]at h1;cases h1;simp[Q9,Lv]at h2
theorem tR.GZ{β:gI}{O:Own}{w w':World}{row:Option Nat}(hg:w.grownBy w' row)(hr:∀r,row=some r->∃o:Obj,w.heap[r]?=some o/\Q9 o){id:Nat}{ob:Ob}
 (h:tR β O w id ob):tR β O w' id ob:=by
 have hs:∀b o v,w.cell? ⟨b,o,none⟩=some v->¬O b o->w'.cell? ⟨b,o,none⟩=some v/\¬O b o:=fun b o v hc hn=>⟨cell_kept hc hg (JH hr),hn⟩
 have hb:∀(b:Nat)(vs:Array Value)(t:TypeId),w.heap[b]?=some (.cells vs t (0,0))->w'.heap[b]?=some (.cells vs t (0,0)):=fun b vs t h=>(fB hg (JH hr) h rfl).trans h
 cases ob with
 |dead=>exact h
 |obj t cs=>
  obtain⟨b,vs,h1,h2,h0,h3⟩:=h;exact⟨b,vs,h1,hb _ _ _ h2,h0,h3.imp fun _ h=>AV.jb hs (fun _=>.refl _) _ _ h⟩
 |tok t e n=>
  obtain⟨u,h1,h2⟩:=h;refine⟨u,h1,?_⟩;rcases h2 with h2|⟨b,cap,vs,h2,h3,h4⟩
  ·exact .inl h2
  ·exact .inr ⟨b,cap,vs,h2,hb _ _ _ h3,h4⟩
 |ij t e n cs=>
  obtain⟨u,h1,hl,h2⟩:=h;refine⟨u,h1,hl,?_⟩;rcases h2 with h2|⟨b,cap,vs,h2,h3,h4,h5,h6,h7,pre,rest,h8,h9⟩
  ·exact .inl h2
  ·exact .inr ⟨b,cap,vs,h2,hb _ _ _ h3,h4,h5,h6,h7,pre,rest,h8,D.jb hs _ _ h9⟩
 |oh t e n cs=>
  obtain⟨u,bs,h1,h0,h2⟩:=h;have hbs:∀b∈bs,w'.heap[b]?=w.heap[b]?:=fun b hb'=>by obtain⟨vs,t',h3⟩:=h0 b hb';exact fB hg (JH hr) h3 rfl
  refine⟨u,bs,h1,fun b hb'=>by rw[hbs b hb'];exact h0 b hb',h2.1,?_⟩;rcases h2.2 with h2|⟨b,cap,vs,h2,h3,h4,h5,h6,h7,h8,h9⟩
  ·exact .inl h2
  ·refine .inr ⟨b,cap,vs,h2,hb _ _ _ h3,h4,h5,h6,h7,h8,?_⟩;have:=tD.imp (f:=fun x=>x) (xQ fun x v=>AV.jH hs (fun _=>.refl _) x v) hbs h9;simpa using this
 |tc e n cs=>
  obtain⟨u,bs,h1,h0,h2⟩:=h;have hbs:∀b∈bs,w'.heap[b]?=w.heap[b]?:=fun b hb'=>by obtain⟨vs,t',h3⟩:=h0 b hb';exact fB hg (JH hr) h3 rfl
  refine⟨u,bs,h1,fun b hb'=>by rw[hbs b hb'];exact h0 b hb',h2.1,?_⟩;rcases h2.2 with h2|⟨b,cap,vs,t,h2,h3,h4,h5,h6,h7,h10,h8,h9⟩
  ·exact .inl h2
  ·refine .inr ⟨b,cap,vs,t,h2,hb _ _ _ h3,h4,h5,h6,h7,h10,h8,?_⟩;have:=tD.imp (f:=fun x=>x) (xQ fun x v=>AV.jH hs (fun _=>.refl _) x v) hbs h9;simpa using this
 |mp P k es=>
  obtain⟨b,h1,h2⟩:=h;obtain⟨xs,c,h3⟩:=h2.block;exact⟨b,h1,h2.imp (ze hg hr h3) fun x v h=>D.jH hs _ _ h⟩
theorem Inv.GZ{C:Ctx}{β:gI}{s:gA}{w w':World}{row:Option Nat}(h:Inv C β s w)(hg:w.grownBy w' row)
 (hr:∀r,row=some r->C.w.heap.size<=r/\∃o:Obj,w.heap[r]?=some o/\Q9 o):Inv C β s w' where
 size:=bN h.size hg.size
 io:=by rw[<-h.io];simp only[Ec,hg.os,hg.tape,hg.output]
 keep:=fun b o v hc hn=>cell_kept (h.keep b o v hc hn) hg (JH fun r e=>(hr r e).2)
 sk:=fun b hb hn=>(hg.block b (ew hb h.size) fun e=>by have:=(hr b e.symm).1;omega).trans (h.sk b hb hn)
 qb:=h.qb
 tH:=h.tH
 pl:=h.pl
 low:=h.low
 obs:=fun id=>(h.obs id).GZ hg fun r e=>(hr r e).2
 inj:=h.inj
theorem Inv.ro{C:Ctx}{β:gI}{s:gA}{w:World}(r:Option Nat)(d:Nat)(h:Inv C β s w):Inv {C with ro:=r,dom:=d,nm:=false} β s w:=
 ⟨h.size,h.io,h.keep,h.sk,h.qb,h.tH,h.pl,h.low,h.obs,h.inj⟩
theorem Inv.Xa{C:Ctx}{β:gI}{s:gA}{w:World}{r:Option Nat}{d:Nat}(h:Inv {C with ro:=r,dom:=d,nm:=false} β s w):Inv C β s w:=
 ⟨h.size,h.io,h.keep,h.sk,h.qb,h.tH,h.pl,h.low,h.obs,h.inj⟩
theorem Inv.here{C:Ctx}{β0:gI}{s0:gA}{w0:World}{K:Nat}(h0:Inv C β0 s0 w0):Inv {C with β:=β0,s:=s0,w:=w0,k:=K} β0 s0 w0 where
 size:=au _
 io:=rfl
 keep:=fun _ _ _ h _=>h
 sk:=fun _ _ _=>rfl
 qb:=fun _ _ h=>.inl h
 tH:=fun id _ h=>.inl ⟨id,h⟩
 pl:=fun _ _=>.refl _
 low:=fun b o h=>⟨ew (h0.low b o h).1 h0.size,fun h2=>by
  rcases h0.qb b o h2 with h3|h3
  ·exact(h0.low b o h).2 h3
  ·have:=(h0.low b o h).1;omega⟩
 obs:=h0.obs
 inj:=h0.inj
def gJ(id:Nat):Nat->Option Nat:=fun i=>if i=id then none else some i
def Ob.kill(id:Nat):Ob->Ob
 |.obj t cs=>.obj t (AV.ia (gJ id) cs)
 |.oh t e n cs=>.oh t e n (AV.ia (gJ id) cs)
 |.tc e n cs=>.tc e n (AV.ia (gJ id) cs)
 |x=>x
def ig(id:Nat):gA->gA
 |[]=>[]
 |(j,x)::r=>(j,if j=id then .dead else x.kill id)::ig id r
theorem qV(s:gA)(id j:Nat):sat (ig id s) j=if j=id then .dead else(sat s j).kill id:=by
 induction s with
 |nil=>simp only[ig,sat];split<;>rfl
 |cons p r ih=>
  obtain⟨q,x⟩:=p;simp only[ig,sat,ih];by_cases hj:j=q
  ·subst hj;simp
  ·simp[hj]
def gC(β:gI)(id:Nat)(p:Place):gI:=fun i=>if i=id then p else β i
theorem uz{β:gI}{s:gA}{id b o:Nat}(h:own (gC β id .no) (ig id s) b o):own β s b o:=by
 obtain⟨i,h⟩:=h;rw[qV]at h;by_cases hi:i=id
 ·subst hi;simp at h
 ·refine⟨i,?_⟩;simp only[hi,aI]at h;cases hs:sat s i with
  |dead=>rw[hs]at h;exact h
  |obj t cs=>rw[hs]at h;simpa[Ob.kill,gC,hi]using h
  |tok t e n=>rw[hs]at h;simpa[Ob.kill,gC,hi]using h
  |ij t e n cs=>rw[hs]at h;simpa[Ob.kill,gC,hi]using h
  |oh t e n cs=>rw[hs]at h;simpa[Ob.kill,gC,hi]using h
  |tc e n cs=>rw[hs]at h;simpa[Ob.kill,gC,hi]using h
  |mp P k es=>rw[hs]at h;simpa[Ob.kill,gC,hi]using h
theorem tS{β:gI}{s:gA}{id i b:Nat}(h:gw (gC β id .no) (ig id s) i b):gw β s i b:=by
 unfold gw at h⊢;rw[qV]at h;by_cases hi:i=id
 ·subst hi;simp at h
 ·simp only[hi,aI]at h;cases hs:sat s i with
  |dead=>rw[hs]at h;exact h
  |obj t cs=>rw[hs]at h;simpa[Ob.kill,gC,hi]using h
  |tok t e n=>rw[hs]at h;simpa[Ob.kill,gC,hi]using h
  |ij t e n cs=>rw[hs]at h;simpa[Ob.kill,gC,hi]using h
  |oh t e n cs=>rw[hs]at h;simpa[Ob.kill,gC,hi]using h
  |tc e n cs=>rw[hs]at h;simpa[Ob.kill,gC,hi]using h
  |mp P k es=>rw[hs]at h;simpa[Ob.kill,gC,hi]using h
theorem uQ{C:Ctx}{β:gI}{s:gA}{w:World}{id:Nat}{x:AV}{v:Value}(h:AV.ok β (C.gD β s) w x v):
 AV.ok (gC β id .no) (C.gD (gC β id .no) (ig id s)) w (x.jU (gJ id)) v:=by
 have h1:AV.ok (gC β id .no) (C.gD β s) w (x.jU (gJ id)) v:=AV.vf (fun i j hij=>by
  unfold gJ at hij;split at hij
  ·cases hij
  ·cases hij;simp[gC, *]) x v h
 exact AV.jH (fun b o v hc hn=>⟨hc,fun h=>hn (h.imp (fun x=>x) uz)⟩) (fun _=>.refl _) _ _ h1
theorem BN{C:Ctx}{β:gI}{s:gA}{w:World}{id:Nat}:∀{xs:List AV}{vs:List Value},AV.gO β (C.gD β s) w xs vs->
 AV.gO (gC β id .no) (C.gD (gC β id .no) (ig id s)) w (AV.ia (gJ id) xs) vs
 |[],vs=>fun h=>by simpa[AV.ia,AV.gO]using h
 |x::xs,vs=>fun h=>by
  simp only[AV.ia,AV.gO]at h⊢;obtain⟨v,r,h1,h2,h3⟩:=h;exact⟨v,r,h1,uQ h2,BN h3⟩
theorem Jw{C:Ctx}{β:gI}{s:gA}{w:World}{id:Nat}{xs:List D}{vs:List Value}(h:D.gO (C.gD β s) w xs vs):
 D.gO (C.gD (gC β id .no) (ig id s)) w xs vs:=
 D.jb (fun _ _ _ hc hn=>⟨hc,fun h=>hn (h.imp (fun x=>x) uz)⟩) xs vs h
theorem vi(ρ:Nat->Option Nat):∀(xs:List AV)(i:Nat),(AV.ia ρ xs)[i]?=(xs[i]?).map (AV.jU ρ)
 |[],_=>by simp[AV.ia]
 |x::xs,0=>by simp[AV.ia]
 |x::xs,i+1=>by simp[AV.ia,vi ρ xs i]
theorem xl(ρ:Nat->Option Nat):∀(xs:List AV),(AV.ia ρ xs).length=xs.length
 |[]=>rfl
 |x::xs=>by simp[AV.ia,xl ρ xs]
theorem nh(ρ:Nat->Option Nat):∀z:List AV,AV.ia ρ z=z.map (AV.jU ρ)
 |[]=>rfl
 |x::xs=>by simp only[aZ,AV.ia,nh ρ xs]
theorem qp{β β':gI}{O O':Own}{w w':World}{ρ:Nat->Option Nat}{x:AV}{v:Value}(h:AV.ok β O w x v->AV.ok β' O' w' (x.jU ρ) v):
 ((∃d,x=.dp d/\x.jU ρ=.dp d)\/(∀d,x≠ .dp d)/\(∀d,x.jU ρ≠ .dp d)/\(AV.ok β O w x v->AV.ok β' O' w' (x.jU ρ) v)):=by
 cases x with
 |dp d=>exact .inl ⟨d,rfl,rfl⟩
 |own e j xs=>refine .inr ⟨fun d h=>(nomatch h),fun d h=>?_,h⟩;simp only[AV.jU]at h;split at h<;>exact nomatch h
 |ptr j off=>refine .inr ⟨fun d h=>(nomatch h),fun d h=>?_,h⟩;simp only[AV.jU]at h;split at h<;>exact nomatch h
 |mm e j off len=>refine .inr ⟨fun d h=>(nomatch h),fun d h=>?_,h⟩;simp only[AV.jU]at h;split at h<;>exact nomatch h
 |jM e j k=>refine .inr ⟨fun d h=>(nomatch h),fun d h=>?_,h⟩;simp only[AV.jU]at h;split at h<;>exact nomatch h
 |kH j k off=>refine .inr ⟨fun d h=>(nomatch h),fun d h=>?_,h⟩;simp only[AV.jU]at h;split at h<;>exact nomatch h
 |mp j=>refine .inr ⟨fun d h=>(nomatch h),fun d h=>?_,h⟩;simp only[AV.jU]at h;split at h<;>exact nomatch h
 |_=>exact .inr ⟨fun d h=>(nomatch h),fun d h=>(nomatch h),h⟩
theorem Inv.kill{C:Ctx}{β:gI}{s:gA}{w:World}(h:Inv C β s w)(id:Nat)(hid:C.k<=id):Inv C (gC β id .no) (ig id s) w where
 size:=h.size
 io:=h.io
 keep:=h.keep
 sk:=h.sk
 qb:=fun b o ho=>h.qb b o (uz ho)
 tH:=fun id b hb=>h.tH id b (tS hb)
 pl:=fun i hi=>by
  have:i≠id:=by omega
  simpa[gC,this]using h.pl i hi
 low:=h.low
 obs:=fun i=>by
  rw[qV];by_cases hi:i=id
  ·subst hi;simp[tR,gC]
  ·simp only[hi,aI];have ho:=h.obs i;cases hs:sat s i with
   |dead=>rw[hs]at ho;simpa[Ob.kill,tR,gC,hi]using ho
   |obj t cs=>
    rw[hs]at ho;obtain⟨b,vs,h1,h2,h0,h3⟩:=ho;exact⟨b,vs,by simpa[gC,hi]using h1,h2,h0,h3.imp fun _ h=>BN h⟩
   |tok t e n=>
    rw[hs]at ho;obtain⟨u,h1,h2⟩:=ho;exact⟨u,by simpa[gC,hi]using h1,h2⟩
   |ij t e n cs=>
    rw[hs]at ho;obtain⟨u,h1,hl,h2⟩:=ho;refine⟨u,by simpa[gC,hi]using h1,hl,?_⟩;rcases h2 with h2|⟨b,cap,vs,h2,h3,h4,h5,h6,h7,pre,rest,h8,h9⟩
    ·exact .inl h2
    ·exact .inr ⟨b,cap,vs,h2,h3,h4,h5,h6,h7,pre,rest,h8,Jw h9⟩
   |oh t e n cs=>
    rw[hs]at ho;obtain⟨u,bs,h1,h0,h2⟩:=ho;refine⟨u,bs,by simpa[gC,hi]using h1,h0,?_⟩;rw[nh];exact h2.imp (fun x v=>qp uQ) (fun _ _=>rfl) (fun _ _ _=>rfl)
   |tc e n cs=>
    rw[hs]at ho;obtain⟨u,bs,h1,h0,h2⟩:=ho;refine⟨u,bs,by simpa[gC,hi]using h1,h0,?_⟩;rw[nh];exact h2.imp (fun x v=>qp uQ) (fun _ _=>rfl) (fun _ _ _ _=>rfl)
   |mp P k es=>
    rw[hs]at ho;obtain⟨b,h1,h2⟩:=ho;exact⟨b,by simpa[gC,hi]using h1,h2.imp rfl fun x v hx=>D.jH (fun _ _ _ hc hn=>⟨hc,fun h=>hn (h.imp (fun x=>x) uz)⟩) _ _ hx⟩
 inj:=fun i j b hi hj=>h.inj i j b (tS hi) (tS hj)
theorem St.kill{C:Ctx}{β:gI}{env:List AV}{s:gA}{a:Act}{w:World}(h:St C β env s a w)(id:Nat)(hid:C.k<=id):
 St C (gC β id .no) (AV.ia (gJ id) env) (ig id s) a w where
 defers:=h.defers
 inv:=h.inv.kill id hid
 len:=by rw[xl];exact h.len
 env:=fun i x hx=>by
  rw[vi]at hx;cases hy:env[i]? with
  |none=>rw[hy]at hx;cases hx
  |some y=>rw[hy]at hx;cases hx;exact uQ (h.env i y hy)
theorem tX{β:gI}{s:gA}{id b o:Nat}{ob:Ob}{p:Place}(h:own (gC β id p) (sset s id ob) b o):
 own β s b o\/own (gC β id p) [(id,ob)] b o:=by
 obtain⟨i,h⟩:=h;rw[iJ]at h;by_cases hi:i=id
 ·subst hi;exact .inr ⟨i,by simpa[sat]using h⟩
 ·refine .inl ⟨i,?_⟩;simp only[hi,aI]at h;cases hs:sat s i with
  |dead=>rw[hs]at h;exact h
  |obj t cs=>rw[hs]at h;simpa[gC,hi]using h
  |tok t e n=>rw[hs]at h;simpa[gC,hi]using h
  |ij t e n cs=>rw[hs]at h;simpa[gC,hi]using h
  |oh t e n cs=>rw[hs]at h;simpa[gC,hi]using h
  |tc e n cs=>rw[hs]at h;simpa[gC,hi]using h
  |mp P k es=>rw[hs]at h;first|exact h.elim|simpa[gC,hi]using h
theorem Ma{β:gI}{s:gA}{id b o:Nat}{ob:Ob}{p:Place}(h:own (gC β id p) (sset s id ob) b o):
 (∃i,i≠id/\gw β s i b)\/own (gC β id p) [(id,ob)] b o:=by
 obtain⟨i,h⟩:=h;rw[iJ]at h;by_cases hi:i=id
 ·subst hi;exact .inr ⟨i,by simpa[sat]using h⟩
 ·refine .inl ⟨i,hi,?_⟩;simp only[hi,aI]at h;unfold gw;cases hs:sat s i with
  |dead=>rw[hs]at h;exact h
  |obj t cs=>rw[hs]at h;simpa[gC,hi]using h
  |tok t e n=>rw[hs]at h;obtain⟨cap,h1,_⟩:=h;exact⟨cap,by simpa[gC,hi]using h1⟩
  |ij t e n cs=>rw[hs]at h;obtain⟨cap,h1⟩:=h;exact⟨cap,by simpa[gC,hi]using h1⟩
  |oh t e n cs=>rw[hs]at h;obtain⟨cap,bs,h1,_⟩:=h;exact⟨_,bs,by simpa[gC,hi]using h1,.inl ⟨cap,rfl⟩⟩
  |tc e n cs=>rw[hs]at h;simpa[gC,hi]using h
  |mp P k es=>rw[hs]at h;first|exact h.elim|simpa[gC,hi]using h
theorem ja{β:gI}{s:gA}{id i b:Nat}{ob:Ob}{p:Place}(h:gw (gC β id p) (sset s id ob) i b):
 (i≠id/\gw β s i b)\/(i=id/\gw (gC β id p) [(id,ob)] id b):=by
 unfold gw at h⊢;rw[iJ]at h;by_cases hi:i=id
 ·subst hi;exact .inr ⟨rfl,by simpa[sat]using h⟩
 ·refine .inl ⟨hi,?_⟩;simp only[hi,aI]at h;cases hs:sat s i with
  |dead=>rw[hs]at h;exact h
  |obj t cs=>rw[hs]at h;simpa[gC,hi]using h
  |tok t e n=>rw[hs]at h;simpa[gC,hi]using h
  |ij t e n cs=>rw[hs]at h;simpa[gC,hi]using h
  |oh t e n cs=>rw[hs]at h;simpa[gC,hi]using h
  |tc e n cs=>rw[hs]at h;simpa[gC,hi]using h
  |mp P k es=>rw[hs]at h;first|exact h.elim|simpa[gC,hi]using h
theorem cW{w:World}{o:Obj}{b:Nat}(h:b<w.heap.size):(w.alloc o).heap[b]?=w.heap[b]?:=Go.RowKit.Below.heap_alloc w o b h
theorem dr{w:World}{o:Obj}:(w.alloc o).heap[w.heap.size]?=some o:=by show(w.heap.push o)[w.heap.size]?=some o;simp
theorem St.fresh{C:Ctx}{β:gI}{env:List AV}{s:gA}{a:Act}{w:World}(h:St C β env s a w){id:Nat}
 {ob:Ob} {p:Place} {c:Array Value} {t:Nat} (hpl:lF (β id) p)
 (hown:∀b o,own (gC β id p) [(id,ob)] b o->b=w.heap.size)
 (hbl:∀b,gw (gC β id p) [(id,ob)] id b->b=w.heap.size)
 (hob:∀β' F,(∀x v,AV.ok β (C.gD β s) w x v->AV.ok β' F (w.alloc (.cells c t)) x v)->(∀xs vs,AV.gO β (C.gD β s) w xs vs->AV.gO β' F (w.alloc (.cells c t)) xs vs)->
  β' id=p->tR β' F (w.alloc (.cells c t)) id ob):
 St C (gC β id p) env (sset s id ob) a (w.alloc (.cells c t))/\lM β s w (gC β id p) (sset s id ob) (w.alloc (.cells c t)):=by
 have m:lM β s w (gC β id p) (sset s id ob) (w.alloc (.cells c t)):=by
  refine⟨by simp,rfl,fun b o v hc _=>?_,fun b hb _=>cW hb,fun b o ho=>?_,fun i b hb=>?_,fun i=>?_⟩
  ·rw[<-hc];exact dh (cW (rL hc))
  ·rcases tX ho with ho|ho
   ·exact .inl ho
   ·exact .inr (fD (hown b o ho).symm)
  ·rcases ja hb with⟨_,hb⟩|⟨_,hb⟩
   ·exact .inl ⟨i,hb⟩
   ·exact .inr (fD (hbl b hb).symm)
  ·by_cases hi:i=id
   ·subst hi;simpa[gC]using hpl
   ·simp only[gC,hi,aI];exact .refl _
 refine⟨h.move m (fun i=>?_) (fun i j b hi hj=>?_),m⟩
 ·rw[iJ];by_cases hi:i=id
  ·subst hi;simp only[aO];exact hob _ _ (fun x v hx=>m.ok hx) (fun xs vs hx=>m.gO hx) (by simp[gC])
  ·simp only[hi,aI];exact(h.inv.obs i).uS m (by simp[gC,hi]) (fun b hb=>cW (h.inv.tE hb)) rfl
 ·rcases ja hi with⟨hi1,hi2⟩|⟨rfl,hi2⟩<;>rcases ja hj with⟨hj1,hj2⟩|⟨rfl,hj2⟩
  ·exact h.inv.inj i j b hi2 hj2
  ·have:=h.inv.tE hi2;have:=hbl b hj2;omega
  ·have:=h.inv.tE hj2;have:=hbl b hi2;omega
  ·rfl
theorem St.newObj{C:Ctx}{β:gI}{env:List AV}{s:gA}{a:Act}{w:World}(h:St C β env s a w){id:Nat}(hd:sat s id=.dead)
 {c:Array Value} {t:Nat} {cs:List AV} (h0:∀v∈c.toList,one v=true) (hc:AV.gO β (C.gD β s) w cs c.toList):
 ∃β',St C β' env (sset s id (.obj t cs)) a (w.alloc (.cells c t))/\lM β s w β' (sset s id (.obj t cs)) (w.alloc (.cells c t))/\
  AV.ok β' (C.gD β' (sset s id (.obj t cs))) (w.alloc (.cells c t)) (.ptr id 0) (.pointer (some ⟨w.heap.size,0,none⟩)):=by
 have hno:β id=.no:=by have:=h.inv.obs id;rw[hd]at this;exact this
 obtain⟨h1,h2⟩:=h.fresh (id:=id) (ob:=.obj t cs) (p:=.blk w.heap.size) (c:=c) (t:=t) (by rw[hno];trivial)
  (fun b o ho=>by
   obtain⟨i,ho⟩:=ho;by_cases hi:i=id
   ·subst hi;simp[sat,gC]at ho;exact ho.symm
   ·simp[sat,hi]at ho)
  (fun b hb=>by simp[gw,sat,gC]at hb;exact hb.symm)
  (fun β' F _ hxs hp=>⟨w.heap.size,c,hp,dr,h0,.of (hxs _ _ hc)⟩)
 exact⟨_,h1,h2,by simp only[AV.ok];exact⟨w.heap.size,by simp[gC],rfl⟩⟩
theorem AV.gY{β:gI}{O:Own}{w:World}:∀{xs:List AV}{vs:List Value},AV.gO β O w xs vs->vs.length=xs.length
 |[],vs=>fun h=>by simp[AV.gO]at h;simp[h]
 |x::xs,vs=>fun h=>by
  simp only[AV.gO]at h;obtain⟨v,r,rfl,_,h3⟩:=h;simp[AV.gY h3]
theorem AV.jd{β:gI}{O:Own}{w:World}:∀{xs:List AV}{vs:List Value},AV.gO β O w xs vs<->
 vs.length=xs.length/\∀(i:Nat)(x:AV)(v:Value),xs[i]?=some x->vs[i]?=some v->AV.ok β O w x v
 |[],vs=>by
  simp only[AV.gO];constructor
  ·rintro rfl;simp
  ·rintro⟨h,_⟩;exact bU.1 h
 |x::xs,vs=>by
  simp only[AV.gO];constructor
  ·rintro⟨v,r,rfl,h2,h3⟩;obtain⟨h4,h5⟩:=AV.jd.1 h3;refine⟨by simp[h4],fun i y u hy hu=>?_⟩;cases i with
   |zero=>simp at hy hu;subst hy;subst hu;exact h2
   |succ i=>simp at hy hu;exact h5 i y u hy hu
  ·rintro⟨h1,h2⟩;cases vs with
   |nil=>simp at h1
   |cons v r=>exact⟨v,r,rfl,h2 0 x v rfl rfl,AV.jd.2 ⟨by simpa using h1,fun i y u hy hu=>h2 (i+1) y u (by simpa using hy) (by simpa using hu)⟩⟩
theorem D.gY{O:Own}{w:World}:∀{xs:List D}{vs:List Value},D.gO O w xs vs->vs.length=xs.length
 |[],vs=>fun h=>by simp[D.gO]at h;simp[h]
 |x::xs,vs=>fun h=>by
  simp only[D.gO]at h;obtain⟨v,r,rfl,_,_,h3⟩:=h;simp[D.gY h3]
theorem D.jd{O:Own}{w:World}:∀{xs:List D}{vs:List Value},D.gO O w xs vs<->
 vs.length=xs.length/\∀(i:Nat)(x:D)(v:Value),xs[i]?=some x->vs[i]?=some v->one v=true/\D.ok O w x v
 |[],vs=>by
  simp only[D.gO];constructor
  ·rintro rfl;simp
  ·rintro⟨h,_⟩;exact bU.1 h
 |x::xs,vs=>by
  simp only[D.gO];constructor
  ·rintro⟨v,r,rfl,h0,h2,h3⟩;obtain⟨h4,h5⟩:=D.jd.1 h3;refine⟨by simp[h4],fun i y u hy hu=>?_⟩;cases i with
   |zero=>simp at hy hu;subst hy;subst hu;exact⟨h0,h2⟩
   |succ i=>simp at hy hu;exact h5 i y u hy hu
  ·rintro⟨h1,h2⟩;cases vs with
   |nil=>simp at h1
   |cons v r=>exact⟨v,r,rfl,(h2 0 x v rfl rfl).1,(h2 0 x v rfl rfl).2,D.jd.2 ⟨by simpa using h1,fun i y u hy hu=>h2 (i+1) y u (by simpa using hy) (by simpa using hu)⟩⟩
def cD:Value->D
 |.slice none 0 0=>.sl 0 (some true) []
 |v=>if one v then .lit v else .any
def KI:Value->AV
 |.agg cs=>if cs.toList.all one then .d (.agg (cs.toList.map cD))else .hM
 |.tuple _=>.hM
 |v=>.d (cD v)
theorem HJ{O:Own}{w:World}(v:Value)(h:one v=true):D.ok O w (cD v) v:=by
 unfold cD;split
 ·simp only[D.ok];exact⟨none,0,rfl,⟨au _,gq⟩,⟨rfl,rfl⟩,.inl trivial⟩
 ·simp[h,D.ok]
theorem zQ{O:Own}{w:World}:∀(vs:List Value),(∀v∈vs,one v=true)->D.gO O w (vs.map cD) vs
 |[],_=>by simp[D.gO]
 |v::vs,h=>by
  simp only[aZ,D.gO];exact⟨v,vs,rfl,h v (by simp),HJ v (h v (by simp)),zQ vs fun u hu=>h u (by simp[hu])⟩
theorem Rc{β:gI}{O:Own}{w:World}(v:Value):AV.ok β O w (KI v) v:=by
 unfold KI;split
 ·split
  ·rename_i cs h;simp only[AV.ok,D.ok];exact⟨cs,rfl,zQ _ fun v hv=>by simpa using cM.1 h v hv⟩
  ·simp[AV.ok]
 ·simp[AV.ok]
 ·rename_i h1 h2;simp only[AV.ok];exact HJ v (by cases v<;>simp_all[one])
def ev(env:List AV):Operand->AV
 |.tmp t=>env.getD t .hM
 |.const v=>KI v
 |.func f=>.fn f [] []
 |.global _=>.hM
theorem St.ev{C:Ctx}{β:gI}{env:List AV}{s:gA}{a:Act}{w:World}(h:St C β env s a w)(x:Operand):
 AV.ok β (C.gD β s) w (ev env x) (a.eval x):=by
 cases x with
 |tmp t=>
  simp only[kJ.ev,Act.eval,List.getD];cases hx:env[t]? with
  |none=>simp[AV.ok]
  |some y=>exact h.env t y hx
 |const v=>exact Rc v
 |global g=>simp[kJ.ev,AV.ok]
 |func f=>simp only[kJ.ev,Act.eval,AV.ok,AV.gO];exact⟨#[],#[],rfl,rfl,rfl⟩
def mF(P:Program)(C:Ctx)(o:Oper)(env:List AV)(s:gA)(k:List AV->gA->Prop):Prop:=
 (∀c,o.op≠ .defer c)->∀Q β a w,St C β env s a w->o.wpIn C.sV 0 P a w (fun a' w'=>∃β' env' s',St C β' env' s' a' w'/\k env' s') Q
def gU(d:Option Nat)(env:List AV)(x:AV):List AV:=match d with|some d=>env.set d x|none=>env
theorem mF.value{P:Program}{C:Ctx}{o:Oper}{env:List AV}{s:gA}{k:List AV->gA->Prop}
 (h:∀β a w,St C β env s a w->∃v w' β' env' s' x,(execOp a.eval o).run P w=.ok (.value v) w'/\St C β' env' s' a w'/\
  AV.ok β' (C.gD β' s') w' x v/\k (gU o.dst env' x) s'):mF P C o env s k:=by
 intro hnd Q β a w hst;obtain⟨v,w',β',env',s',x,hr,h1,h2,h3⟩:=h β a w hst;refine⟨fun _ _=>trivial,?_⟩;rw[Oper.semAt_eq _ _ _ hnd,hr];exact⟨β',_,s',h1.put h2 o.dst,h3⟩
theorem mF.pure{P:Program}{C:Ctx}{o:Oper}{env:List AV}{s:gA}{k:List AV->gA->Prop}{x:AV}
 (h:∀β a w,St C β env s a w->∃v,(execOp a.eval o).run P w=.ok (.value v) w/\AV.ok β (C.gD β s) w x v)
 (hk:k (gU o.dst env x) s):mF P C o env s k:=
 .value fun β a w hst=>let⟨v,h1,h2⟩:=h β a w hst;⟨v,w,β,env,s,x,h1,hst,h2,hk⟩
theorem vq{β:gI}{O:Own}{w:World}{x:AV}{v:Value}(h:AV.ok β O w x v){cs:List AV}(hc:x.cells=some cs):
 AV.gO β O w cs v.cells.toList/\∀u∈v.cells.toList,one u=true:=by
 have single:∀(y:AV),AV.ok β O w y v->(∀c,v≠ .agg c)->one v=true->AV.gO β O w [y] v.cells.toList/\∀u∈v.cells.toList,one u=true:=by
  intro y hy hn h1;have:v.cells=#[v]:=by cases v<;>simp_all[Value.cells]
  rw[this];exact⟨by simp only[AV.gO];exact⟨v,[],rfl,hy,rfl⟩,by simpa using h1⟩
 cases x with
 |hM=>simp[AV.cells]at hc
 |l_ xs=>simp[AV.cells]at hc
 |agg xs=>
  simp only[AV.cells,aQ]at hc;subst hc;simp only[AV.ok]at h;obtain⟨vs,rfl,h0,h1⟩:=h;exact⟨h1,h0⟩
 |d x=>
  cases x with
  |agg xs=>
   simp only[AV.cells,aQ]at hc;subst hc;simp only[AV.ok,D.ok]at h;obtain⟨vs,rfl,h1⟩:=h;show AV.gO β O w (xs.map .d) vs.toList/\_;rw[D.jd]at h1;refine⟨AV.jd.2 ⟨by simp[h1.1],fun i y v hy hv=>?_⟩,fun u hu=>?_⟩
   ·rw[bk]at hy;cases hz:xs[i]? with
    |none=>rw[hz]at hy;cases hy
    |some z=>rw[hz]at hy;cases hy;exact(h1.2 i z v hz hv).2
   ·obtain⟨i,hi⟩:=cB hu;have hlt:i<xs.length:=by rw[<-h1.1];exact(aP.1 hi).1
    exact(h1.2 i _ u (aA hlt) hi).1
  |any=>
   simp only[AV.cells,aQ]at hc;subst hc;simp only[AV.ok,D.ok]at h;exact single _ (by simpa[AV.ok,D.ok]using h) (by intro c e;subst e;simp[one]at h) h
  |lit u=>
   simp only[AV.cells,aQ]at hc;subst hc;have h':=h;simp only[AV.ok,D.ok]at h;obtain⟨rfl,h1⟩:=h;exact single _ h' (by intro c e;subst e;simp[one]at h1) h1
  |sl e nl ys=>
   simp only[AV.cells,aQ]at hc;subst hc;have h':=h;simp only[AV.ok,D.ok]at h;obtain⟨a,cap,rfl,_⟩:=h;exact single _ h' (by intro c e;cases e) rfl
 |own e id xs=>
  simp only[AV.cells,aQ]at hc;subst hc;have h':=h;simp only[AV.ok,D.ok]at h;obtain⟨⟨a,cap,rfl,_⟩,_⟩:=h;exact single _ h' (by intro c e;cases e) rfl
 |ptr id off=>
  simp only[AV.cells,aQ]at hc;subst hc;have h':=h;simp only[AV.ok]at h;obtain⟨b,_,rfl⟩:=h;exact single _ h' (by intro c e;cases e) rfl
 |mm e id off len=>
  simp only[AV.cells,aQ]at hc;subst hc;have h':=h;simp only[AV.ok]at h;obtain⟨b,cap,_,_,rfl⟩:=h;exact single _ h' (by intro c e;cases e) rfl
 |pv cs'=>
  simp only[AV.cells,aQ]at hc;subst hc;have h':=h;simp only[AV.ok]at h;obtain⟨b,o,vs,rfl,_⟩:=h;exact single _ h' (by intro c e;cases e) rfl
 |pa cs'=>
  simp only[AV.cells,aQ]at hc;subst hc;have h':=h;simp only[AV.ok]at h;obtain⟨b,o,vs,rfl,_⟩:=h;exact single _ h' (by intro c e;cases e) rfl
 |fn f a b=>
  simp only[AV.cells,aQ]at hc;subst hc;have h':=h;simp only[AV.ok]at h;obtain⟨fs,cs',rfl,_⟩:=h;exact single _ h' (by intro c e;cases e) rfl
 |jM e id n=>
  simp only[AV.cells,aQ]at hc;subst hc;have h':=h;simp only[AV.ok]at h;obtain⟨u,m,_,_,_,⟨_,rfl,_⟩|⟨b,cap,rfl,_⟩⟩:=h
  ·exact single _ h' (by intro c e;cases e) rfl
  ·exact single _ h' (by intro c e;cases e) rfl
 |kH id k off=>
  simp only[AV.cells,aQ]at hc;subst hc;have h':=h;simp only[AV.ok]at h;obtain⟨u,m,b,off',_,_,rfl,_⟩:=h;exact single _ h' (by intro c e;cases e) rfl
 |Ac e xs=>
  simp only[AV.cells,aQ]at hc;subst hc;have h':=h;simp only[AV.ok]at h;obtain⟨a,rfl,_⟩:=h;exact single _ h' (by intro c e;cases e) rfl
 |dp d=>simp[AV.cells]at hc
 |mp id=>
  simp only[AV.cells,aQ]at hc;subst hc;have h':=h;simp only[AV.ok]at h;obtain⟨b,_,rfl⟩:=h;exact single _ h' (by intro c e;cases e) rfl
theorem IE:∀{cs:List AV}{ds:List D},AV.qc cs=some ds->cs=ds.map .d
 |[],ds=>fun h=>by simp only[AV.qc,aQ]at h;subst h;rfl
 |.d x::xs,ds=>fun h=>by
  simp only[AV.qc,aF]at h;obtain⟨es,h1,rfl⟩:=h;simp[IE h1]
 |.hM::_,_=>fun h=>by simp[AV.qc]at h
 |.own .. ::_,_=>fun h=>by simp[AV.qc]at h
 |.ptr .. ::_,_=>fun h=>by simp[AV.qc]at h
 |.mm .. ::_,_=>fun h=>by simp[AV.qc]at h
 |.pv .. ::_,_=>fun h=>by simp[AV.qc]at h
 |.pa .. ::_,_=>fun h=>by simp[AV.qc]at h
 |.agg .. ::_,_=>fun h=>by simp[AV.qc]at h
 |.l_ .. ::_,_=>fun h=>by simp[AV.qc]at h
 |.fn .. ::_,_=>fun h=>by simp[AV.qc]at h
 |.jM .. ::_,_=>fun h=>by simp[AV.qc]at h
 |.kH .. ::_,_=>fun h=>by simp[AV.qc]at h
 |.Ac .. ::_,_=>fun h=>by simp[AV.qc]at h
 |.dp .. ::_,_=>fun h=>by simp[AV.qc]at h
 |.mp .. ::_,_=>fun h=>by simp[AV.qc]at h
theorem LY{β:gI}{O:Own}{w:World}{cs:List AV}{vs:Array Value}(h:AV.gO β O w cs vs.toList)(h1:∀u∈vs.toList,one u=true):
 AV.ok β O w (AV.mk cs) (.agg vs):=by
 unfold AV.mk;split
 ·rename_i ds hd;have:=IE hd;subst this;simp only[AV.ok,D.ok];refine⟨vs,rfl,?_⟩;rw[AV.jd]at h;rw[D.jd];refine⟨by simpa using h.1,fun i x v hx hv=>⟨h1 v (bR hv),?_⟩⟩;have:=h.2 i (.d x) v (by simp[hx]) hv;simpa[AV.ok]using this
 ·simp only[AV.ok];exact⟨vs,rfl,h1,h⟩
theorem xe{β:gI}{O:Own}{w:World}(n:Nat){xs:List AV}{vs:List Value}(h:AV.gO β O w xs vs):AV.gO β O w (xs.drop n) (vs.drop n):=by
 rw[AV.jd]at h⊢;exact⟨by simp[h.1],fun i x v hx hv=>h.2 (n+i) x v (by simpa using hx) (by simpa using hv)⟩
theorem xh{β:gI}{O:Own}{w:World}(n:Nat){xs:List AV}{vs:List Value}(h:AV.gO β O w xs vs):AV.gO β O w (xs.take n) (vs.take n):=by
 rw[AV.jd]at h⊢;refine⟨by simp[h.1],fun i x v hx hv=>?_⟩;rw[bS]at hx hv;split at hx
 ·rename_i hi;rw[ah hi]at hv;exact h.2 i x v hx hv
 ·cases hx
theorem nJ{β:gI}{O:Own}{w:World}{xs ys:List AV}{vs us:List Value}(h:AV.gO β O w xs vs)(k:AV.gO β O w ys us):
 AV.gO β O w (xs++ys) (vs++us):=by
 induction xs generalizing vs with
 |nil=>simp only[AV.gO]at h;subst h;simpa using k
 |cons x xs ih=>
  simp only[AV.gO]at h;obtain⟨v,r,rfl,h1,h2⟩:=h;simp only[cg,AV.gO];exact⟨v,r++us,rfl,h1,ih h2⟩
theorem xK{O:Own}{w:World}(n:Nat){xs:List D}{vs:List Value}(h:D.gO O w xs vs):D.gO O w (xs.drop n) (vs.drop n):=by
 rw[D.jd]at h⊢;exact⟨by simp[h.1],fun i x v hx hv=>h.2 (n+i) x v (by simpa using hx) (by simpa using hv)⟩
theorem zX{O:Own}{w:World}(n:Nat){xs:List D}{vs:List Value}(h:D.gO O w xs vs):D.gO O w (xs.take n) (vs.take n):=by
 rw[D.jd]at h⊢;refine⟨by simp[h.1],fun i x v hx hv=>?_⟩;rw[bS]at hx hv;split at hx
 ·rename_i hi;rw[ah hi]at hv;exact h.2 i x v hx hv
 ·cases hx
theorem td{P:Program}{t:TypeId}{i:TypeInfo}{ag:Bool}(hi:P.info? t=some i)
 (hg:(match P.underlying t with|some (.struct _)|some (.array _ _)=>some true|some _=>some false|none=>none)=some ag)
 (w:World) (b o:Nat) (vs:List Value) (hc:∀j v,vs[j]?=some v->w.cell? ⟨b,o+j,none⟩=some v) (hl:vs.length=if ag then i.size else 1):
 (loadVar t ⟨b,o,none⟩).run P w=.ok (if ag then .agg vs.toArray else vs.headD undef) w:=by
 cases ag with
 |true=>
  have hu:∃d,P.underlying t=some d/\((∃f,d=.struct f)\/∃n e,d=.array n e):=by
   cases hq:P.underlying t with
   |none=>simp[hq]at hg
   |some d=>rw[hq]at hg;cases d<;>simp at hg<;>exact⟨_,rfl,by simp⟩
  obtain⟨d,hd,h2⟩:=hu;have hag:∀w,(isAgg t).run P w=.ok true w:=by
   intro w;rcases h2 with⟨f,rfl⟩|⟨n,e,rfl⟩<;>simp[isAgg,a_ hd]
  simp only[aO]at hl;have hl':=run_loadCells_list (P:=P) w ⟨b,o,none⟩ vs (fun j v hj=>by rw[dz];exact hc j v hj);rw[hl]at hl';simp[loadVar,hag,Go.sizeOf,typeInfo,hi,hl']
 |false=>
  have hu:∃d,P.underlying t=some d/\(∀f,d≠ .struct f)/\∀n e,d≠ .array n e:=by
   cases hq:P.underlying t with
   |none=>simp[hq]at hg
   |some d=>rw[hq]at hg;cases d<;>simp at hg<;>exact⟨_,rfl,by simp,by simp⟩
  obtain⟨d,hd,h2,h3⟩:=hu;have hag:∀w,(isAgg t).run P w=.ok false w:=by
   intro w;simp only[isAgg,aU,a_ hd,aG];cases d<;>simp_all
  simp only[av,aI]at hl
  match vs,hl with
  |[v],_=>
   have:=hc 0 v rfl;simp only[cZ]at this;simp[loadVar,hag,this]
def Em(P:Program)(t:TypeId):Option Bool:=
 match P.underlying t with
 |some (.struct _)|some (.array _ _)=>some true
 |some _=>some false
 |none=>none
inductive ri where
 |mv (x:Operand)
 |pick (c a b:Operand)
 |alloc (id t:Nat) (z:List D)
 |box (id t:Nat) (x:Operand)
 |Dl (id d t:Nat) (x:Operand)
 |uV (id d t:Nat) (z:List D)
 |build (z:List D) (parts:List (Nat×Nat×Operand))
 |mW (id t e:Nat) (xs:List Operand)
 |wN (id t e:Nat) (xs:List Operand)
 |Cq (id t e:Nat) (xs:List Operand)
 |ye (id t e bytes:Nat) (z:List D) (tok:Bool) (len cap:Operand)
 |zl (id t e bytes:Nat) (z:List D) (tok:Bool) (len cap:Operand)
 |load (n:Nat) (ag:Bool) (p:Operand)
 |store (n:Nat) (p x:Operand)
 |nD (x:Operand)
 |bin (op:BinOp) (x y:Operand)
 |Bh (neg:Bool) (x y:Operand)
 |wo (neg:Bool) (x:Operand)
 |un (op:UnOp) (x:Operand)
 |conv (k:IntKind) (x:Operand)
 |zk (f:Nat) (first cap:List Operand)
 |xZ (id t e bytes:Nat) (z:List D) (tok:Bool) (len cap:Operand)
 |slc (x:Operand) (e:Nat) (lo hi mx:Option Operand)
 |Fv (p:Operand) (e n:Nat) (lo hi mx:Option Operand)
 |Nn (off:Nat) (p:Operand)
 |qj (e:Nat) (x i:Operand)
 |E4 (e n:Nat) (p i:Operand)
 |len (x:Operand)
 |app (id t e bytes:Nat) (x y:Operand)
 |AP (id t e bytes:Nat) (x y:Operand)
 |iy (f:Nat) (args:List Operand)
 |tN (g:Operand) (args:List Operand)
 |ext (x:Operand) (i:Nat)
 |min (x y:Operand)
 |OR (x:Operand)
 |Fx (x:Operand) (e:Nat) (h:Operand)
 |DJ (t:Nat) (x:Operand)
 |dead
structure h_ where
 dst:Option Nat
 op:ri
 guard:Option (Option Nat×Bool)
inductive gB where
 |skip
 |gv (ops:List h_)
 |draw (ops:List h_) (after:List fW)
 |seq (a b:gB)
 |cond (c:Operand) (a b:gB)
 |block (id:Nat) (a:gB)
 |loop (a:gB)
 |exit (id:Nat)
 |ret
 |dead
 |ghost (a:gB)
 |Sa (g:Operand) (ps:List Nat) (a b:gB)
 |scope (a:gB)
 |label
def ri.erase:ri->ri
 |.wN id t e xs=>.mW id t e xs
 |.Dl _ d t x=>.box d t x
 |.uV _ d t z=>.alloc d t z
 |.Cq id t e xs=>.mW id t e xs
 |.ye id t e b z tok l c=>.xZ id t e b z tok l c
 |.zl id t e b z tok l c=>.xZ id t e b z tok l c
 |.AP id t e b x y=>.app id t e b x y
 |.Fx x e h=>.slc x e none (some h) none
 |x=>x
def h_.erase(m:h_):h_:=⟨m.dst,m.op.erase,m.guard⟩
def gB.erase:gB->gB
 |.gv ms=>.gv (ms.map h_.erase)
 |.draw ms af=>.draw (ms.map h_.erase) af
 |.seq a b=>.seq a.erase b.erase
 |.cond c a b=>.cond c a.erase b.erase
 |.block id a=>.block id a.erase
 |.loop a=>.loop a.erase
 |.ghost a=>a.erase
 |.scope a=>.scope a.erase
 |.Sa g ps a b=>.Sa g ps a.erase b.erase
 |x=>x
def rf(P:Program)(t:Nat):Option (List D):=
 (P.info? t).bind fun i=>i.zero.bind fun z=>if z.cells.toList.all one&&z.cells.size==i.size then some (z.cells.toList.map cD)else none
def jE(P:Program)(t:Nat):Option Nat:=(P.info? t).map (·.size)
def vL(P:Program)(t:Nat):Option Nat:=(P.info? t).map (·.bytes)
def CR(P:Program)(t:Nat):Option Nat:=match P.underlying t with|some (.slice e)=>some e|_=>none
def Uf:Value->Lit
 |.string s=>.string s.data.toList
 |.int q a=>.int q a
 |_=>.nil
def RN:Option IntKind->Value->Prop
 |none,.string s=>s.size<=maxLen
 |some q,.int q' a=>q'=q/\(Lit.int q a).wf=true
 |_,_=>False
def GG:D->Bool
 |.agg _=>true
 |_=>false
def partsOf(P:Program)(fs:Array Field)(p:Nat×Operand):Option (Nat×Nat×Operand):=
 (fs[p.1]?).bind fun(f:Field)=>(jE P f.type).map fun n=>(f.offset,n,p.2)
def sx(n:Nat)(ps:List (Nat×Operand)):Option (List Operand):=
 if ps.map (·.1)=List.range n then some (ps.map (·.2))else none
def isZero:Operand->Bool
 |.const (.int _ 0)=>true
 |_=>false
def uu:Operand->Bool
 |.const (.slice none 0 0)=>true
 |_=>false
def v_:Operand->Operand->Bool
 |.tmp a,.tmp b=>a==b
 |.const (.int j a),.const (.int k b)=>j==k&&a==b
 |_,_=>false
def enters(P:Program)(f:Nat):Bool:=
 match P.funcs[f]? with
 |some fn=>!(fn.name== "runtime.NumGoroutine")&&fn.body.isSome
 |none=>false
def lR(P:Program)(o:Oper):Option ri:=
 match o.op with
 |.move x|.assign x=>some (.mv x)
 |.pick c a b=>some (.pick c a b)
 |.alloc t=>o.dst.bind fun d=>(rf P t).map fun z=>.alloc d t z
 |.box t x=>o.dst.map fun d=>.box d t x
 |.build t ps=>
  match P.underlying t with
  |some (.struct fs)=>(rf P t).bind fun z=>
   if fs.toList.all (fun(f:Field)=>(jE P f.type).isSome)then(ps.toList.mapM (partsOf P fs)).map fun qs=>.build z qs else none
  |some (.array _ e)=>if ps.toList.isEmpty then(jE P e).bind fun _=>(rf P t).map fun z=>.build z []else none
  |_=>none
 |.buildSlice t n ps=>o.dst.bind fun d=>(CR P t).bind fun e=>(jE P e).bind fun sz=>(rf P e).bind fun _=>
  if n*sz<=2^24/\0<sz then(sx n ps.toList).map fun xs=>.mW d e sz xs else none
 |.load t p=>(jE P t).bind fun n=>(Em P t).map fun ag=>.load (if ag then n else 1) ag p
 |.store t p x=>(jE P t).map fun n=>.store n p x
 |.nilCheck x=>some (.nD x)
 |.binOp op t x y _=>
  match P.underlying t with
  |some (.int _)|some .string=>some (.bin op x y)
  |some .bool=>match op with|.eql=>some (.Bh false x y)|.neq=>some (.Bh true x y)|_=>none
  |some (.slice _)=>if uu y then(match op with|.eql=>some (.wo false x)|.neq=>some (.wo true x)|_=>none)else none
  |_=>none
 |.unOp op _ x=>some (.un op x)
 |.convert a b x=>
  match P.underlying a,P.underlying b with
  |some (.int _),some (.int k)=>some (.conv k x)
  |_,_=>none
 |.makeFunc (.func f) first cap=>some (.zk f first.toList cap.toList)
 |.makeSlice t l c=>o.dst.bind fun d=>(CR P t).bind fun e=>(jE P e).bind fun sz=>(vL P e).bind fun by'=>(rf P e).bind fun z=>
  if 0<sz then(if isZero l then some (.xZ d e sz by' z true l c)else if v_ l c then some (.xZ d e sz by' z false l c)else none)else none
 |.slice t x lo hi mx=>
  match P.underlying t with
  |some (.slice e)=>(jE P e).map fun sz=>.slc x sz lo hi mx
  |some (.array n e)=>if n<2^62 then(jE P e).map fun sz=>.Fv x sz n lo hi mx else none
  |_=>none
 |.fieldAddr t p f=>
  match P.underlying t with
  |some (.struct fs)=>(fs[f]?).bind fun fd=>(jE P fd.type).bind fun n=>if n=0 then none else some (.Nn fd.offset p)
  |_=>none
 |.indexAddr t x i=>
  match P.underlying t with
  |some (.slice e)=>(jE P e).map fun sz=>.qj sz x i
  |some (.array n e)=>(jE P e).map fun sz=>.E4 sz n x i
  |_=>none
 |.extract x i=>some (.ext x i)
 |.call c=>
  match c.callee with
  |.value (.func f)=>if enters P f then some (.iy f c.args.toList)else none
  |.value g=>some (.tN g c.args.toList)
  |.builtin .len=>match(c.argTypes[0]?).bind P.underlying,c.args.toList with
   |some (.slice _),[x]=>some (.len x)
   |_,_=>none
  |.builtin .append=>match c.args.toList,c.argTypes[0]?,c.argTypes[1]? with
   |[x,y],some t,some u=>o.dst.bind fun d=>(CR P t).bind fun e=>(CR P u).bind fun _=>(jE P e).bind fun sz=>(vL P e).bind fun by'=>(rf P e).bind fun _=>
    if 0<sz/\0<by' then some (.app d e sz by' x y)else none
   |_,_,_=>none
  |.builtin .min=>match c.args.toList with|[x,y]=>some (.min x y)|_=>none
  |_=>none
 |.panic x=>some (.OR x)
 |.makeInterface t x=>match P.underlying t with
  |some (.interface _)=>none
  |some _=>some (.DJ t x)
  |none=>none
 |_=>none
def ta(P:Program)(ops:Array Oper)(o:Oper):Option h_:=
 some {dst:=o.dst,op:=(lR P o).getD .dead,guard:=o.guard.map fun(j,b)=>((ops[j]?).bind (·.dst),b)}
def nL(P:Program):Code->Option gB
 |.skip=>some .skip
 |.region _ ops draw=>(ops.toList.mapM (ta P ops)).map fun ms=>
  if draw then .draw ms (ops.toList.map fun o=>(o.after.toList.filter (Region.binds .any)).map (·.on))else .gv ms
 |.seq a b=>(nL P a).bind fun x=>(nL P b).map fun y=>.seq x y
 |.cond c a b=>(nL P a).bind fun x=>(nL P b).map fun y=>.cond c x y
 |.block id a=>(nL P a).map fun x=>.block id x
 |.loop a=>(nL P a).map fun x=>.loop x
 |.exit id=>some (.exit id)
 |.ret=>some .ret
 |.rangeFunc g ps a b=>(nL P a).bind fun x=>(nL P b).map fun y=>.Sa g ps.toList x y
 |.scope a=>(nL P a).map .scope
 |.label _=>some .label
 |_=>some .dead
def Br(b w:Bool)(A B:Prop):Prop:=if b=w then A else B
abbrev iD(n:Int):D:=.lit (.int .i64 n)
abbrev bD(b:Bool):D:=.lit (.bool b)
def pN:AV->Option (Nat×List D)
 |.d (.sl e _ xs)=>some (e,xs)
 |.own e _ xs=>some (e,xs)
 |_=>none
def xb:AV->Option Bool
 |.d (.sl _ (some b) _)=>some b
 |.mm .. =>some false
 |_=>none
def gx:D->List D
 |.agg cs=>cs
 |x=>[x]
mutual
def AV.fin:AV->Option D
 |.d x=>some x
 |.own e _ xs=>some (.sl e none xs)
 |.agg cs=>(AV.lu cs).map .agg
 |.hM=>none
 |.ptr _ _=>none
 |.mm _ _ _ _=>none
 |.pv _=>none
 |.pa _=>none
 |.l_ _=>none
 |.fn _ _ _=>none
 |.jM _ _ _=>none
 |.kH _ _ _=>none
 |.Ac _ _=>none
 |.dp _=>none
 |.mp _=>none
def AV.lu:List AV->Option (List D)
 |[]=>some []
 |x::xs=>(AV.fin x).bind fun y=>(AV.lu xs).map (y::·)
end
def Ob.jq:Ob->Bool
 |.dead=>true
 |_=>false
def tV(k0 id:Nat)(env:List AV)(s:gA)(K:List AV->gA->(AV->AV)->Prop):Prop:=
 k0<=id/\if(sat s id).jq then K env s (fun x=>x)else K (AV.ia (gJ id) env) (ig id s) (AV.jU (gJ id))
def Vs:BinOp->IntKind->IntKind->Prop
 |.shl,_,_=>True
 |.shr,_,_=>True
 |_,k,k'=>k=k'
def xX(k:IntKind)(a b:Int):Int:=k.wrap (BitVec.ofInt k.bits a &&& BitVec.ofInt k.bits b).toNat
def Vt(k:IntKind)(a b:Int):Int:=k.wrap (BitVec.ofInt k.bits a ||| BitVec.ofInt k.bits b).toNat
def Ke(k:IntKind)(a b:Int):Int:=k.wrap (BitVec.ofInt k.bits a ^^^ BitVec.ofInt k.bits b).toNat
def HC(k:IntKind)(a b:Int):Int:=k.wrap (BitVec.ofInt k.bits a &&& ~~~BitVec.ofInt k.bits b).toNat
def Fq(k:IntKind)(a b:Int):Int:=k.wrap (a*2^(min b.toNat k.bits))
def zD(k:IntKind)(a b:Int):Int:=a.fdiv (2^(min b.toNat k.bits))
def Nx(op:BinOp)(x y:AV)(K:AV->Prop):Prop:=
 match x,y with
 |.d (.lit (.int k a)),.d (.lit (.int k' b))=>Vs op k k'/\
  match op with
  |.add=>K (.d (.lit (.int k (k.wrap (a+b)))))
  |.sub=>K (.d (.lit (.int k (k.wrap (a-b)))))
  |.mul=>K (.d (.lit (.int k (k.wrap (a*b)))))
  |.quo=>b≠0/\K (.d (.lit (.int k (k.wrap (a.tdiv b)))))
  |.rem=>b≠0/\K (.d (.lit (.int k (a.tmod b))))
  |.eql=>K (.d (bD (a==b)))
  |.neq=>K (.d (bD (a != b)))
  |.lss=>K (.d (bD (decide (a<b))))
  |.leq=>K (.d (bD (decide (a<=b))))
  |.gtr=>K (.d (bD (decide (b<a))))
  |.geq=>K (.d (bD (decide (b<=a))))
  |.and=>K (.d (.lit (.int k (xX k a b))))
  |.or=>K (.d (.lit (.int k (Vt k a b))))
  |.xor=>K (.d (.lit (.int k (Ke k a b))))
  |.andNot=>K (.d (.lit (.int k (HC k a b))))
  |.shl=>0<=b/\K (.d (.lit (.int k (Fq k a b))))
  |.shr=>0<=b/\K (.d (.lit (.int k (zD k a b))))
 |.d (.lit (.string a)),.d (.lit (.string b))=>
  match op with
  |.add=>a.size+b.size<2^63/\K (.d (.lit (.string (a++b))))
  |.eql=>K (.d (bD (a.toList==b.toList)))
  |.neq=>K (.d (bD (!(a.toList==b.toList))))
  |_=>False
 |_,_=>False
def iN:AV->Option Int
 |.d (.lit (.int _ n))=>some n
 |_=>none
def Dk(env:List AV)(dflt:Int):Option Operand->Option Int
 |none=>some dflt
 |some x=>iN (ev env x)
def gG(P:Program)(f:Nat)(args:List AV)(s:gA)(k:Nat)(R:AV->gA->Prop):Prop:=
 ∀(C:Ctx)(vs:Array Value),C.s=s->C.k=k->Inv C C.β C.s C.w->AV.gO C.β (C.gD C.β C.s) C.w args vs.toList->
  Calls P f vs C.w fun e w'=>∃v x β' s',e=.returned v/\Inv C β' s' w'/\AV.ok β' (C.gD β' s') w' x v/\R x s'
def Ob.jU(ρ:Nat->Option Nat):Ob->Ob
 |.obj t cs=>.obj t (AV.ia ρ cs)
 |.oh t e n cs=>.oh t e n (AV.ia ρ cs)
 |.tc e n cs=>.tc e n (AV.ia ρ cs)
 |x=>x
def mC:List fR->Nat->Option Nat
 |[],_=>none
 |(c,j)::r,i=>if i=c then some j else mC r i
def nK:List fR->Nat->Option Nat
 |[],_=>none
 |(c,j)::r,i=>if i=j then some c else nK r i
def mq(s:gA)(pr mp:List fR):gA:=mp.map fun(c,j)=>(c,(sat s j).jU (nK pr))
def qW(s s':gA)(mp all:List fR):gA:=
 match mp with
 |[]=>s
 |(c,j)::r=>qW (sset s j ((sat s' c).jU (mC all))) s' r all
def HP(P:Program)(k0 f:Nat)(args:List AV)(env:List AV)(s:gA)(K:AV->List AV->gA->Prop):Prop:=
 ∃(pr nw:List fR)(R:AV->gA->Prop),
  pr.map (·.1)=List.range pr.length/\((pr++nw).map (·.1)).Nodup/\((pr++nw).map (·.2)).Nodup/\
  (∀p∈nw,sat s p.2=.dead/\k0<=p.2)/\
  gG P f (args.map fun x=>x.jU (nK pr)) (mq s pr pr) pr.length R/\
  ∀x s',R x s'->K (x.jU (mC (pr++nw))) env (qW s s' (pr++nw) (pr++nw))
def Ax(P:Program)(k0 f:Nat)(args:List AV)(env:List AV)(s:gA)(K:AV->List AV->gA->Prop):Prop:=
 ∀(C:Ctx)(β:gI)(a:Act)(w:World)(vs:Array Value),C.k=k0->St C β env s a w->AV.gO β (C.gD β s) w args vs.toList->
  Calls P f vs w fun e w'=>∃v x β' env' s',e=.returned v/\St C β' env' s' a w'/\AV.ok β' (C.gD β' s') w' x v/\K x env' s'
def Om(e:Nat)(x i:AV)(K:AV->Prop):Prop:=
 match iN i with
 |none=>False
 |some n=>match x with
  |.mm e' id off len=>e'=e/\0<=n/\n<len/\K (.ptr id (off+n.toNat*e))
  |.jM e' id m=>e'=e/\0<=n/\n<m/\K (.kH id m (n.toNat*e))
  |x=>match pN x with
   |some (e',xs)=>e'=e/\0<=n/\n<xs.length/\K (.pv (gx (xs.getD n.toNat .any)))
   |none=>False
def BK:AV->Bool
 |.dp _=>true
 |_=>false
def wC(cs:List AV):Bool:=cs.all fun x=>!BK x
def pU(n:Nat)(ag:Bool)(p:AV)(s:gA)(K:AV->Prop):Prop:=
 match p with
 |.ptr id off=>match sat s id with
  |.obj _ cs=>off+n<=cs.length/\K (if ag then AV.mk ((cs.drop off).take n)else cs.getD off .hM)
  |_=>False
 |.pv cs=>n<=cs.length/\K (.d (if ag then .agg (cs.take n)else cs.headD .any))
 |.pa cs=>ag=false/\n=1/\1<=cs.length/\K (cs.headD .hM)
 |.kH id k off=>match sat s id with
  |.ij _ _ m cs=>m=k/\off+n<=cs.length/\K (.d (if ag then .agg ((cs.drop off).take n)else cs.getD off .any))
  |.tc _ m cs=>m=k/\off+n<=cs.length/\ag=false/\n=1/\BK (cs.getD off .hM)=false/\K (cs.getD off .hM)
  |_=>False
 |_=>False
def DY(n:Nat)(p x:AV)(s:gA)(K:gA->Prop):Prop:=
 match p with
 |.ptr id off=>match sat s id with
  |.obj t cs=>match x.cells with
   |some xs=>xs.length=n/\off+n<=cs.length/\K (sset s id (.obj t (cs.take off++xs++cs.drop (off+n))))
   |none=>False
  |_=>False
 |.kH id k off=>match sat s id with
  |.ij t e m cs=>match x.fin with
   |some d=>m=k/\(gx d).length=n/\off+n<=cs.length/\K (sset s id (.ij t e m (cs.take off++gx d++cs.drop (off+n))))
   |none=>False
  |.tc e m cs=>match x.cells with
   |some xs=>m=k/\xs.length=n/\0<n/\off+n<=cs.length/\wC xs=true/\K (sset s id (.tc e m (cs.take off++xs++cs.drop (off+n))))
   |none=>False
  |_=>False
 |_=>False
def od(env:List AV):List AV->List (Nat×Nat×Operand)->Option (List AV)
 |cs,[]=>some cs
 |cs,(off,n,x)::r=>match(ev env x).cells with
  |some xs=>if xs.length=n/\off+n<=cs.length then od env (cs.take off++xs++cs.drop (off+n)) r else none
  |none=>none
def AV.Ba:AV->Option (List AV)
 |.d (.agg cs)=>some (cs.map .d)
 |.agg cs=>some cs
 |_=>none
def O9(x:AV)(lo hi:Option Int)(K:AV->Prop):Prop:=
 match pN x,lo,hi with
 |some (e,xs),some l,some h=>0<=l/\l<=h/\h<=xs.length/\K (.d (.sl e (xb x) ((xs.take h.toNat).drop l.toNat)))
 |_,_,_=>False
def IL(id t e bytes k0:Nat)(x y:AV)(env:List AV)(s:gA)(K:AV->List AV->gA->Prop):Prop:=
 match pN y with
 |none=>False
 |some (e2,ys)=>(ys=[]\/e2=e)/\
  match x with
  |.own e' j xs=>e'=e/\sat s j=.tok t e xs.length/\(xs.length+ys.length)*bytes<=2^47/\
   K (.own e j (xs++ys)) env (sset s j (.tok t e (xs.length+ys.length)))
  |.jM e' j n=>e'=e/\(match sat s j with
   |.ij t' e2 m cs=>t'=t/\e2=e/\m=n/\(n+ys.length)*bytes<=2^47/\
    K (.jM e j (n+ys.length)) env (sset s j (.ij t e (n+ys.length) (cs++ys.flatMap gx)))
   |_=>False)
  |.d (.sl _ (some true) [])=>ys.length*bytes<=2^47/\tV k0 id env s fun env s _=>K (.own e id ys) env (sset s id (.tok t e ys.length))
  |.Ac e' xs=>e'=e/\(xs.length+ys.length)*bytes<=2^47/\K (.d (.sl e none (xs++ys))) env s
  |_=>False
def Et(id t e bytes k0:Nat)(x y:AV)(env:List AV)(s:gA)(K:AV->List AV->gA->Prop):Prop:=
 match pN y,x with
 |some (e2,ys),.d (.sl _ (some true) [])=>(ys=[]\/e2=e)/\ys.length*bytes<=2^47/\
  tV k0 id env s fun env s _=>K (.jM e id ys.length) env (sset s id (.ij t e ys.length (ys.flatMap gx)))
 |_,x=>IL id t e bytes k0 x y env s K
def AV.flat(e:Nat):List AV->Option (List AV)
 |[]=>some []
 |x::xs=>match x.cells,AV.flat e xs with
  |some c,some r=>if c.length=e then some (c++r)else none
  |_,_=>none
def KF(id t e k0:Nat)(ds:Option (List D))(cs:Option (List AV))(env:List AV)(s:gA)(K:AV->List AV->gA->Prop):Prop:=
 match ds,cs with
 |some ds,some cs=>(∀d∈ds,(gx d).length=e)/\wC cs=true/\k0<=id/\(if(sat s id).jq then K (.own e id ds) env (sset s id (.oh t e ds.length cs))
  else K (.own e id ds) (AV.ia (gJ id) env) (sset (ig id s) id (.oh t e ds.length (cs.map (AV.jU (gJ id))))))
 |_,_=>False
def Ln(a b:Nat):Nat:=min a b
def Ub(n e:Nat)(cs:List D):List D:=cs.take (n*e)
def OW(k0:Nat)(e e' j n:Nat)(h:Int)(env:List AV)(s:gA)(K:AV->List AV->gA->Prop):Ob->Prop
 |.ij t e2 m cs=>e'=e/\e2=e/\n=m/\0<=h/\h<=m/\k0<=j/\K (.jM e j (Ln h.toNat m)) (AV.ia (gJ j) env) (sset (ig j s) j (.ij t e (Ln h.toNat m) (Ub h.toNat e cs)))
 |_=>False
def oW(P:Program)(k0:Nat)(m:ri)(env:List AV)(s:gA)(K:AV->List AV->gA->Prop):Prop:=
 match m with
 |.mv x=>K (ev env x) env s
 |.pick c a b=>match ev env c with
  |.d (.lit (.bool t))=>Br t true (K (ev env a) env s) (K (ev env b) env s)
  |_=>False
 |.alloc id t z=>tV k0 id env s fun env s _=>K (.ptr id 0) env (sset s id (.obj t (z.map .d)))
 |.uV id _ t z=>tV k0 id env s fun env s _=>K (.ptr id 0) env (sset s id (.obj t (z.map .d)))
 |.Dl id _ t x=>match(ev env x).cells with
  |some cs=>tV k0 id env s fun env' s' f=>K (.ptr id 0) env' (sset s' id (.obj t (cs.map f)))
  |none=>False
 |.box id t x=>match(ev env x).cells with
  |some cs=>tV k0 id env s fun env' s' f=>K (.ptr id 0) env' (sset s' id (.obj t (cs.map f)))
  |none=>False
 |.build z ps=>match od env (z.map .d) ps with
  |some cs=>K (AV.mk cs) env s
  |none=>False
 |.mW id t e xs=>match AV.lu (xs.map (ev env))with
  |some ds=>(∀d∈ds,(gx d).length=e)/\tV k0 id env s fun env s _=>K (.own e id ds) env (sset s id (.tok t e ds.length))
  |none=>False
 |.wN id t e xs=>match AV.lu (xs.map (ev env))with
  |some ds=>(∀d∈ds,(gx d).length=e)/\tV k0 id env s fun env s _=>K (.jM e id ds.length) env (sset s id (.ij t e ds.length (ds.flatMap gx)))
  |none=>False
 |.Cq id t e xs=>KF id t e k0 (AV.lu (xs.map (ev env))) (AV.flat e (xs.map (ev env))) env s K
 |.load n ag p=>pU n ag (ev env p) s fun x=>K x env s
 |.store n p x=>DY n (ev env p) (ev env x) s fun s=>K .hM env s
 |.nD x=>match ev env x with
  |.ptr id off=>K (.ptr id off) env s
  |.pv cs=>K (.pv cs) env s
  |.pa cs=>K (.pa cs) env s
  |.fn f a b=>K (.fn f a b) env s
  |.kH id m off=>K (.kH id m off) env s
  |_=>False
 |.bin op x y=>Nx op (ev env x) (ev env y) fun r=>K r env s
 |.Bh neg x y=>match ev env x,ev env y with
  |.d (.lit (.bool a)),.d (.lit (.bool b))=>K (.d (bD (if neg then a != b else a==b))) env s
  |_,_=>False
 |.wo neg x=>match xb (ev env x)with
  |some b=>K (.d (bD (if neg then !b else b))) env s
  |none=>match pN (ev env x)with
   |some (_,xs)=>(xs=[]->K (.d (bD (if neg then !true else true))) env s)/\K (.d (bD (if neg then !false else false))) env s
   |none=>False
 |.un op x=>match op,ev env x with
  |.not,.d (.lit (.bool b))=>K (.d (bD (!b))) env s
  |.neg,.d (.lit (.int k n))=>K (.d (.lit (.int k (k.wrap (0-n))))) env s
  |_,_=>False
 |.conv k x=>match ev env x with
  |.d (.lit (.int _ n))=>K (.d (.lit (.int k (k.wrap n)))) env s
  |_=>False
 |.zk f first cap=>K (.fn f (first.map (ev env)) (cap.map (ev env))) env s
 |.ye _ _ e bytes z tok len cap=>match iN (ev env len),iN (ev env cap),z with
  |some l,some c,[zd]=>e=1/\tok=false/\0<=l/\l<=c/\bytes*c<=2^48/\c<2^62/\K (.d (.sl 1 none (List.replicate l.toNat zd))) env s
  |_,_,_=>False
 |.zl id _ e bytes z tok len cap=>match iN (ev env len),iN (ev env cap)with
  |some l,some c=>tok=false/\0<e/\0<=l/\l<=c/\bytes*c<=2^48/\c<2^62/\k0<=id/\(sat s id).jq=true/\K (.jM e id l.toNat) env (sset s id (.tc e l.toNat ((List.replicate l.toNat (z.map .d)).flatten)))
  |_,_=>False
 |.xZ id t e bytes z tok len cap=>match iN (ev env len),iN (ev env cap)with
  |some l,some c=>0<=l/\l<=c/\bytes*c<=2^48/\c<2^62/\tV k0 id env s fun env s _=>
   if tok then K (.own e id []) env (sset s id (.tok t e 0))
   else K (.mm e id 0 l.toNat) env (sset s id (.obj t ((List.replicate l.toNat (z.map .d)).flatten)))
  |_,_=>False
 |.slc x e lo hi mx=>match pN (ev env x)with
  |some (e',xs)=>match mx with
   |none=>(xs=[]\/e'=e)/\O9 (ev env x) (Dk env 0 lo) (Dk env xs.length hi) fun r=>K r env s
   |some m=>lo=none/\∃hh h,hi=some hh/\iN (ev env hh)=some h/\iN (ev env m)=some h/\(xs=[]\/e'=e)/\0<=h/\h<=xs.length/\K (.Ac e' (xs.take h.toNat)) env s
  |none=>False
 |.Fv p e n lo hi mx=>match ev env p,lo,hi,mx with
  |.ptr id off,none,none,none=>K (.mm e id off n) env s
  |.ptr id off,none,some h,none=>match iN (ev env h)with
   |some h=>0<=h/\h<=n/\K (.mm e id off h.toNat) env s
   |none=>False
  |_,_,_,_=>False
 |.Nn off p=>match ev env p with
  |.ptr id o=>K (.ptr id (o+off)) env s
  |.pv cs=>K (.pv (cs.drop off)) env s
  |.pa cs=>K (.pa (cs.drop off)) env s
  |.kH id k o=>K (.kH id k (o+off)) env s
  |_=>False
 |.qj e x i=>Om e (ev env x) (ev env i) fun r=>K r env s
 |.E4 e n p i=>match iN (ev env i),ev env p with
  |some j,.ptr id off=>0<=j/\j<n/\K (.ptr id (off+j.toNat*e)) env s
  |some j,.pv cs=>0<=j/\j<n/\K (.pv (cs.drop (j.toNat*e))) env s
  |_,_=>False
 |.len x=>match ev env x with
  |.mm _ _ _ n=>K (.d (iD n)) env s
  |.jM _ _ n=>K (.d (iD n)) env s
  |x=>match pN x with
   |some (_,xs)=>K (.d (iD xs.length)) env s
   |none=>False
 |.app id t e bytes x y=>IL id t e bytes k0 (ev env x) (ev env y) env s K
 |.AP id t e bytes x y=>Et id t e bytes k0 (ev env x) (ev env y) env s K
 |.iy f args=>Ax P k0 f (args.map (ev env)) env s K
 |.tN g args=>match ev env g with
  |.fn f first cap=>enters P f=true/\Ax P k0 f (first++args.map (ev env)++cap) env s K
  |_=>False
 |.ext x i=>match ev env x with
  |.l_ cs=>i<cs.length/\K (cs.getD i .hM) env s
  |_=>False
 |.min x y=>match ev env x,ev env y with
  |.d (.lit (.int k a)),.d (.lit (.int k' b))=>k=k'/\K (.d (.lit (.int k (if b<a then b else a)))) env s
  |_,_=>False
 |.OR _=>False
 |.Fx x e y=>match ev env x,iN (ev env y)with
  |.jM e' j n,some h=>OW k0 e e' j n h env s K (sat s j)
  |_,_=>False
 |.DJ t x=>ev env x=.d (.agg [])/\K (.d (.lit (.iface t (.agg #[])))) env s
 |.dead=>False
theorem zA{O:Own}{w:World}{b e:Nat}:∀{xs:List D}{o i:Nat}{x:D},D.row O w b o e xs->xs[i]?=some x->
 ∃vs,vs.length=e/\jI O w b (o+i*e) vs/\D.Dn O w x vs
 |[],_,_,_=>fun _ h=>by simp at h
 |y::ys,o,0,x=>fun h hx=>by
  rw[D.lY]at h;simp at hx;subst hx;obtain⟨vs,h1,h2,h3⟩:=h.1;exact⟨vs,h1,by simpa using h2,h3⟩
 |y::ys,o,i+1,x=>fun h hx=>by
  rw[D.lY]at h;obtain⟨vs,h1,h2,h3⟩:=zA h.2 (by simpa using hx);refine⟨vs,h1,?_,h3⟩;have:o+e+i*e=o+(i+1)*e:=by rw[bC];omega
  rwa [this]at h2
theorem HQ{O:Own}{w:World}{b o:Nat}{x:D}{vs:List Value}(h:D.Dn O w x vs)(hc:jI O w b o vs):D.gO O w (gx x) vs:=by
 cases x with
 |agg cs=>exact h
 |any=>obtain⟨v,rfl,h⟩:=h;simp only[gx,D.gO];exact⟨v,[],rfl,(hc 0 v rfl).2.2,h,rfl⟩
 |lit u=>obtain⟨v,rfl,h⟩:=h;simp only[gx,D.gO];exact⟨v,[],rfl,(hc 0 v rfl).2.2,h,rfl⟩
 |sl e nl ys=>obtain⟨v,rfl,h⟩:=h;simp only[gx,D.gO];exact⟨v,[],rfl,(hc 0 v rfl).2.2,h,rfl⟩
theorem Ii{O:Own}{w:World}{x:D}{vs:List Value}(h:D.gO O w (gx x) vs):D.Dn O w x vs:=by
 cases x with
 |agg cs=>exact h
 |any=>simp only[gx,D.gO]at h;obtain⟨v,r,rfl,_,h,rfl⟩:=h;exact⟨v,rfl,h⟩
 |lit u=>simp only[gx,D.gO]at h;obtain⟨v,r,rfl,_,h,rfl⟩:=h;exact⟨v,rfl,h⟩
 |sl e nl ys=>simp only[gx,D.gO]at h;obtain⟨v,r,rfl,_,h,rfl⟩:=h;exact⟨v,rfl,h⟩
theorem xw{β:gI}{O:Own}{w:World}{x:AV}{v:Value}{e:Nat}{xs:List D}(h:AV.ok β O w x v)(hs:pN x=some (e,xs)):
 ∃a cap,v=.slice a xs.length cap/\HA xs.length cap/\(∀b,xb x=some b->IG (some b) a cap)/\(xs=[]\/∃b o,a=some ⟨b,o,none⟩/\D.row O w b o e xs):=by
 cases x with
 |d x=>
  cases x with
  |sl e' nl ys=>
   simp only[pN,aQ,Prod.mk.injEq]at hs;obtain⟨rfl,rfl⟩:=hs;simp only[AV.ok,D.ok]at h;obtain⟨a,cap,h1,h2,h3,h4⟩:=h;refine⟨a,cap,h1,h2,fun b hb=>?_,h4⟩;cases nl with
   |some b'=>simp only[xb,aQ]at hb;subst hb;exact h3
   |none=>simp[xb]at hb
  |any=>simp[pN]at hs
  |lit u=>simp[pN]at hs
  |agg cs=>simp[pN]at hs
 |own e' id ys=>
  simp only[pN,aQ,Prod.mk.injEq]at hs;obtain⟨rfl,rfl⟩:=hs;simp only[AV.ok,D.ok]at h;obtain⟨⟨a,cap,h1,h2,_,h4⟩,_⟩:=h;refine⟨a,cap,h1,h2,fun b hb=>?_,h4⟩;simp[xb]at hb
 |hM=>simp[pN]at hs
 |ptr id off=>simp[pN]at hs
 |mm e id off len=>simp[pN]at hs
 |pv cs=>simp[pN]at hs
 |pa cs=>simp[pN]at hs
 |agg cs=>simp[pN]at hs
 |l_ cs=>simp[pN]at hs
 |fn f a b=>simp[pN]at hs
 |jM e id n=>simp[pN]at hs
 |kH id k off=>simp[pN]at hs
 |Ac e xs=>simp[pN]at hs
 |dp d=>simp[pN]at hs
 |mp id=>simp[pN]at hs
theorem R6{β:gI}{O:Own}{w:World}{x:AV}{v:Value}{t:Bool}(h:AV.ok β O w x v)(hn:xb x=some t):
 ∃a n cap,v=.slice a n cap/\a.isNone=t:=by
 cases hs:pN x with
 |some p=>
  obtain⟨e,xs⟩:=p;obtain⟨a,cap,h1,_,h3,_⟩:=xw h hs;refine⟨a,_,cap,h1,?_⟩;have:=h3 t hn;cases t with
  |true=>rw[this.1];rfl
  |false=>cases a with
   |none=>exact absurd rfl this
   |some a=>rfl
 |none=>
  cases x with
  |mm e id off len=>
   simp only[xb,aQ]at hn;subst hn;simp only[AV.ok]at h;obtain⟨b,cap,_,_,rfl⟩:=h;exact⟨_,_,_,rfl,rfl⟩
  |d x=>cases x<;>simp_all[pN,xb]
  |own e id xs=>simp[pN]at hs
  |hM=>simp[xb]at hn
  |ptr id off=>simp[xb]at hn
  |pv cs=>simp[xb]at hn
  |pa cs=>simp[xb]at hn
  |agg cs=>simp[xb]at hn
  |l_ cs=>simp[xb]at hn
  |fn f a b=>simp[xb]at hn
  |jM e id n=>simp[xb]at hn
  |kH id k off=>simp[xb]at hn
  |Ac e xs=>simp[xb]at hn
  |dp d=>simp[xb]at hn
  |mp id=>simp[xb]at hn
theorem rK{β:gI}{O:Own}{w:World}{x:AV}{v:Value}{n:Int}(h:AV.ok β O w x v)(hn:iN x=some n):∃k,v=.int k n:=by
 cases x with
 |d x=>
  cases x with
  |lit u=>
   simp only[AV.ok,D.ok]at h;obtain⟨h,_⟩:=h;subst h;cases v<;>simp[iN]at hn
   subst hn;exact⟨_,rfl⟩
  |any=>simp[iN]at hn
  |sl e nl xs=>simp[iN]at hn
  |agg cs=>simp[iN]at hn
 |own e id xs=>simp[iN]at hn
 |mm e id off len=>simp[iN]at hn
 |hM=>simp[iN]at hn
 |ptr id off=>simp[iN]at hn
 |pv cs=>simp[iN]at hn
 |pa cs=>simp[iN]at hn
 |agg cs=>simp[iN]at hn
 |l_ cs=>simp[iN]at hn
 |fn f a b=>simp[iN]at hn
 |jM e id n=>simp[iN]at hn
 |kH id k off=>simp[iN]at hn
 |Ac e xs=>simp[iN]at hn
 |dp d=>simp[iN]at hn
 |mp id=>simp[iN]at hn
theorem qK{β:gI}{O:Own}{w:World}{u v:Value}(h:AV.ok β O w (.d (.lit u)) v):v=u:=by simp only[AV.ok,D.ok]at h;exact h.1
theorem ve{β:gI}{O:Own}{w:World}{u:Value}(h:one u=true):AV.ok β O w (.d (.lit u)) u:=by simp[AV.ok,D.ok,h]
section
variable{P:Program}{C:Ctx}{o:Oper}{env:List AV}{s:gA}{k:List AV->gA->Prop}
theorem Vd{x:Operand}(hop:o.op=.move x\/o.op=.assign x)(hk:k (gU o.dst env (ev env x)) s):mF P C o env s k:=
 .pure (fun β a w hst=>⟨a.eval x,by rcases hop with h|h<;>simp[execOp,h],hst.ev x⟩) hk
theorem Sl{c x y:Operand}(hop:o.op=.pick c x y){t:Bool}(hc:ev env c=.d (.lit (.bool t)))
 (hk:Br t true (k (gU o.dst env (ev env x)) s) (k (gU o.dst env (ev env y)) s)):mF P C o env s k:=by
 unfold Br at hk;refine .value fun β a w hst=>?_
 have h1:=hst.ev c;rw[hc]at h1;have h1:=qK h1;cases t with
 |true=>exact⟨a.eval x,w,β,env,s,_,by simp[execOp,hop,h1,asBool],hst,hst.ev x,by simpa using hk⟩
 |false=>exact⟨a.eval y,w,β,env,s,_,by simp[execOp,hop,h1,asBool],hst,hst.ev y,by simpa using hk⟩
theorem mS{t:Nat}{z:List D}(h:rf P t=some z):∃i u,P.info? t=some i/\i.zero=some u/\u.cells.size=i.size/\
 (∀v∈u.cells.toList,one v=true)/\z=u.cells.toList.map cD:=by
 unfold rf at h;cases hi:P.info? t with
 |none=>simp[hi]at h
 |some i=>
  cases hz:i.zero with
  |none=>simp[hi,hz]at h
  |some u=>
   simp only[hi,hz,aa]at h;split at h
   ·rename_i hc;simp only[bL,dF]at hc;cases h;exact⟨i,u,rfl,hz,hc.2,fun v hv=>by simpa using cM.1 hc.1 v hv,rfl⟩
   ·cases h
theorem HU{β:gI}{O:Own}{w:World}{ds:List D}{vs:List Value}(h:D.gO O w ds vs):AV.gO β O w (ds.map .d) vs:=by
 rw[D.jd]at h;refine AV.jd.2 ⟨by simp[h.1],fun i x v hx hv=>?_⟩;rw[bk]at hx;cases hz:ds[i]? with
 |none=>rw[hz]at hx;cases hx
 |some z=>rw[hz]at hx;cases hx;exact(h.2 i z v hz hv).2
theorem pK{id:Nat}{K:List AV->gA->(AV->AV)->Prop}(h:tV C.k id env s K){β:gI}{a:Act}{w:World}(hst:St C β env s a w):
 ∃β' env' s' f,St C β' env' s' a w/\sat s' id=.dead/\K env' s' f/\(∀x v,AV.ok β (C.gD β s) w x v->AV.ok β' (C.gD β' s') w (f x) v)/\
  ∀b o,C.gD β' s' b o->C.gD β s b o:=by
 unfold tV at h;obtain⟨h1,h2⟩:=h;split at h2
 ·rename_i hd;refine⟨β,env,s,_,hst,?_,h2,fun x v hx=>hx,fun _ _ h=>h⟩;cases hs:sat s id<;>simp_all[Ob.jq]
 ·exact⟨_,_,_,_,hst.kill id h1,by rw[qV];simp,h2,fun x v hx=>uQ hx,fun _ _ h=>h.imp (fun x=>x) uz⟩
theorem DO{β β':gI}{O O':Own}{w:World}{f:AV->AV}(hf:∀x v,AV.ok β O w x v->AV.ok β' O' w (f x) v){xs:List AV}{vs:List Value}
 (h:AV.gO β O w xs vs):AV.gO β' O' w (xs.map f) vs:=by
 rw[AV.jd]at h⊢;refine⟨by simpa using h.1,fun i x v hx hv=>?_⟩;rw[bk]at hx;cases hz:xs[i]? with
 |none=>rw[hz]at hx;cases hx
 |some z=>rw[hz]at hx;cases hx;exact hf _ _ (h.2 i z v hz hv)
theorem Ip{d t:Nat}{z:List D}(hop:o.op=.alloc t)(hz:rf P t=some z)
 (hk:tV C.k d env s fun env s _=>k (gU o.dst env (.ptr d 0)) (sset s d (.obj t (z.map .d)))):mF P C o env s k:=by
 refine .value fun β a w hst=>?_
 obtain⟨i,u,hi,hu,hsz,h1,rfl⟩:=mS hz;obtain⟨β1,env1,s1,f,hst1,hd,hk1,hf,_⟩:=pK hk hst;obtain⟨β2,hst2,m,hp⟩:=hst1.newObj (id:=d) hd (c:=u.cells) (t:=t) (cs:=(u.cells.toList.map cD).map .d) h1 (HU (zQ _ h1));exact⟨_,_,β2,env1,_,.ptr d 0,by simp[execOp,hop,Instr.alloc,zeroValue,typeInfo,hi,hu,newVar,newRow],hst2,hp,hk1⟩
theorem U9{d t:Nat}{x:Operand}(hop:o.op=.box t x){cs:List AV}(hc:(ev env x).cells=some cs)
 (hk:tV C.k d env s fun env s f=>k (gU o.dst env (.ptr d 0)) (sset s d (.obj t (cs.map f)))):mF P C o env s k:=by
 refine .value fun β a w hst=>?_
 obtain⟨h0,h1⟩:=vq (hst.ev x) hc;obtain⟨β1,env1,s1,f,hst1,hd,hk1,hf,_⟩:=pK hk hst;obtain⟨β2,hst2,m,hp⟩:=hst1.newObj (id:=d) hd (c:=(a.eval x).cells) (t:=t) (cs:=cs.map f) h1 (DO hf h0);exact⟨_,_,β2,env1,_,.ptr d 0,by simp[execOp,hop,Instr.box,newVar,newRow],hst2,hp,hk1⟩
theorem Sc{d t:Nat}{x:Operand}(hop:o.op=.box t x){cs:List AV}(hc:(ev env x).cells=some cs)
 (hk:tV C.k d env s fun env s f=>k (gU o.dst env (.ptr d 0)) (sset s d (.obj t (cs.map f)))):mF P C o env s k:=by
 refine .value fun β a w hst=>?_
 obtain⟨h0,h1⟩:=vq (hst.ev x) hc;obtain⟨β1,env1,s1,f,hst1,hd,hk1,hf,_⟩:=pK hk hst;obtain⟨β2,hst2,m,hp⟩:=hst1.newObj (id:=d) hd (c:=(a.eval x).cells) (t:=t) (cs:=cs.map f) h1 (DO hf h0);exact⟨_,_,β2,env1,_,.ptr d 0,by simp[execOp,hop,Instr.box,newVar,newRow],hst2,hp,hk1⟩
theorem wL{t:Nat}{ag:Bool}(h:Em P t=some ag):
 (match P.underlying t with|some (.struct _)|some (.array _ _)=>some true|some _=>some false|none=>none)=some ag:=h
theorem Kr{β:gI}{O:Own}{w:World}:∀{cs:List AV}{us:List Value}{bs:List Nat}{j:Nat},tD β O w cs us bs->j<cs.length->∃x v,cs[j]?=some x/\us[j]?=some v/\∃b,NX β O w x v b
 |[],_,_,_,_,h=>by simp at h
 |x::xs,us,bs,j,h,hj=>by
  simp only[tD]at h;obtain⟨v,r,c1,c2,rfl,rfl,h3,h4⟩:=h;cases j with
  |zero=>exact⟨x,v,rfl,rfl,c1,h3⟩
  |succ j=>
   obtain⟨y,u,h5,h6,h7⟩:=Kr h4 (by simpa using hj);exact⟨y,u,by simpa using h5,by simpa using h6,h7⟩
theorem S2{β:gI}{O:Own}{w:World}{x:AV}{v:Value}{b:List Nat}(hx:BK x=false)(h:NX β O w x v b):AV.ok β O w x v:=by
 cases x with
 |dp d=>cases hx
 |_=>exact h.1
theorem C2{t n:Nat}{ag:Bool}(hn:jE P t=some n)(hg':Em P t=some ag){β:gI}{a:Act}{w:World}(hst:St C β env s a w)
 {px:AV} {pval:Value} (hp:AV.ok β (C.gD β s) w px pval) {K:AV->Prop} (hk:pU (if ag then n else 1) ag px s K):
 ∃v x,(Instr.loadAt t pval).run P w=.ok v w/\AV.ok β (C.gD β s) w x v/\K x:=by
 obtain⟨i,hi,hin⟩:∃i,P.info? t=some i/\i.size=n:=by
  unfold jE at hn;cases hq:P.info? t with
  |none=>simp[hq]at hn
  |some i=>exact⟨i,rfl,by simpa[hq]using hn⟩
 generalize hN:(if ag then n else 1)=N at hk;cases px with
 |ptr id off=>
  simp only[AV.ok]at hp;obtain⟨b,hb,hv⟩:=hp;simp only[pU]at hk;have ho:=hst.inv.obs id;cases hs:sat s id with
  |dead=>simp[hs]at hk
  |tok t' e' n'=>simp[hs]at hk
  |oh t' e' n' cs=>simp[hs]at hk
  |tc e' n' cs=>simp[hs]at hk
  |mp P k es=>simp[hs]at hk
  |ij t' e' n' cs=>simp[hs]at hk
  |obj t' cs=>
   rw[hs]at ho;simp only[hs]at hk;obtain⟨hlen,hk⟩:=hk;obtain⟨b',vs,hb',hh,h1,h2⟩:=ho;rw[hb]at hb';cases hb';obtain⟨pre,rest,hvs,h2⟩:=h2;have hl:=AV.gY h2;have hseg:=xh N (xe off h2);have hpre:(vs.toList.drop off).take N=(pre.drop off).take N:=by rw[hvs,cq gq,cN (by simp;omega)]
   rw[<-hpre]at hseg;have hcell:∀j v,((vs.toList.drop off).take N)[j]?=some v->w.cell? ⟨b,off+j,none⟩=some v:=by
    intro j v hj;rw[bS]at hj;split at hj
    ·rw[cz]at hj;simp only[World.cell?,hh,cw,av,aI];simpa using hj
    ·cases hj
   have hlen2:((vs.toList.drop off).take N).length=N:=by rw[hpre];simp;omega
   have hrun:=td (P:=P) hi (wL hg') w b off _ hcell (by rw[hlen2,<-hN,hin]);refine⟨if ag then .agg ((vs.toList.drop off).take N).toArray else((vs.toList.drop off).take N).headD undef,_,?_,?_,hk⟩
   ·simp only[Instr.loadAt,hv,Instr.sureAddr,aU,bg,aG,hrun]
   ·cases ag with
    |true=>
     simp only[aO];have:∀u∈((vs.toList.drop off).take N).toArray.toList,one u=true:=by
      intro u hu;exact h1 u (cA (bE (by simpa using hu)))
     exact LY (vs:=((vs.toList.drop off).take N).toArray) (by simpa using hseg) this
    |false=>
     simp only[av,aI]at hN⊢;subst hN;have hltp:off<pre.length:=by omega
     have hlt:off<vs.toList.length:=by rw[hvs,aj];omega
     have hlt2:off<cs.length:=by omega
     have e1:((vs.toList.drop off).take 1).headD undef=vs.toList[off]:=by rw[aH hlt];rfl
     rw[e1,ak,aA hlt2];refine(AV.jd.1 h2).2 off _ _ (aA hlt2) ?_;rw[<-aA hlt,hvs,aT hltp]
 |pv cs=>
  simp only[AV.ok]at hp;obtain⟨b,off,vs,hv,hc,h2⟩:=hp;simp only[pU]at hk;obtain⟨hlen,hk⟩:=hk;have hl:=D.gY h2;have hseg:=zX N h2;have hcell:∀j v,(vs.take N)[j]?=some v->w.cell? ⟨b,off+j,none⟩=some v:=by
   intro j v hj;rw[bS]at hj;split at hj
   ·exact(hc j v hj).1
   ·cases hj
  have hlen2:(vs.take N).length=N:=by simp;omega
  have hrun:=td (P:=P) hi (wL hg') w b off _ hcell (by rw[hlen2,<-hN,hin]);refine⟨if ag then .agg (vs.take N).toArray else(vs.take N).headD undef,_,?_,?_,hk⟩
  ·simp only[Instr.loadAt,hv,Instr.sureAddr,aU,bg,aG,hrun]
  ·cases ag with
   |true=>
    simp only[aO,AV.ok,D.ok];exact⟨(vs.take N).toArray,rfl,by simpa using hseg⟩
   |false=>
    simp only[av,aI]at hN⊢;subst hN;cases cs with
    |nil=>simp at hlen
    |cons c cs=>
     simp only[D.gO]at h2;obtain⟨v,r,rfl,_,h3,_⟩:=h2;simpa[AV.ok]using h3
 |pa cs=>
  simp only[AV.ok]at hp;obtain⟨b,off,vs,hv,hc,h2⟩:=hp;simp only[pU]at hk;obtain⟨rfl,rfl,hlen,hk⟩:=hk;cases cs with
  |nil=>simp at hlen
  |cons c cs=>
   simp only[AV.gO]at h2;obtain⟨v,r,rfl,h3,_⟩:=h2;have hcell:∀j u,([v]:List Value)[j]?=some u->w.cell? ⟨b,off+j,none⟩=some u:=fun j u hj=>by
    cases j with
    |zero=>exact(hc 0 u (by simpa using hj)).1
    |succ j=>simp at hj
   have hrun:=td (P:=P) hi (wL hg') w b off [v] hcell (by rw[hin];rfl);refine⟨v,_,?_,by simpa using h3,hk⟩;simp only[Instr.loadAt,hv,Instr.sureAddr,aU,bg,aG,hrun];rfl
 |hM=>simp[pU]at hk
 |d x=>simp[pU]at hk
 |own e id xs=>simp[pU]at hk
 |mm e id off len=>simp[pU]at hk
 |agg cs=>simp[pU]at hk
 |l_ cs=>simp[pU]at hk
 |fn f a b=>simp[pU]at hk
 |jM e id n=>simp[pU]at hk
 |Ac e xs=>simp[pU]at hk
 |dp d=>simp[pU]at hk
 |mp id=>simp[pU]at hk
 |kH id kk off=>
  simp only[AV.ok]at hp;obtain⟨u,m,b,off',hb,_,hv,hpt⟩:=hp;simp only[pU]at hk;have ho:=hst.inv.obs id;cases hs:sat s id with
  |dead=>simp[hs]at hk
  |tok t' e' n'=>simp[hs]at hk
  |oh t' e' n' cs=>simp[hs]at hk
  |mp P k es=>simp[hs]at hk
  |obj t' cs=>simp[hs]at hk
  |tc e' n' cs=>
   rw[hs]at ho;simp only[hs]at hk;obtain⟨hkm,hlen,rfl,hn1,hdp,hk⟩:=hk;subst hn1;obtain⟨u',bs,hb',_,hcl,hg⟩:=ho;rw[hb']at hb;obtain⟨rfl,rfl⟩:=hb;obtain⟨cap,hu,had⟩:=hpt hkm;subst had;rcases hg with⟨_,hg,_⟩|⟨b',cap',vs,t',hg,hh,_,_,_,h1,_,_,h2⟩
   ·subst hg;simp only[en]at hcl;omega
   ·rw[hu]at hg;simp only[ct,aQ,Addr.mk.injEq]at hg;obtain⟨⟨rfl,_⟩,_⟩:=hg;obtain⟨x0,v0,hx0,hv0,bx,hnx⟩:=Kr h2 (by omega:off'<cs.length);have hdp':BK x0=false:=by rw[ak,hx0]at hdp;exact hdp
    have hxv:=S2 hdp' hnx;have hc0:w.cell? ⟨b,off',none⟩=some v0:=by
     simp only[World.cell?,hh,cw,av,aI];simpa using hv0
    have hrun:=td (P:=P) hi (wL hg') w b off' [v0] (fun j v hj=>by
     cases j with
     |zero=>simp at hj;subst hj;exact hc0
     |succ j=>simp at hj) (by simpa using hN.symm)
    refine⟨v0,_,?_,?_,hk⟩
    ·simp only[Instr.loadAt,hv,Instr.sureAddr,aU,bg,aG,hrun];rfl
    ·rw[ak,hx0];exact hxv
  |ij t' e' n' cs=>
   rw[hs]at ho;simp only[hs]at hk;obtain⟨hkm,hlen,hk⟩:=hk;obtain⟨u',hb',hcl,hg⟩:=ho;rw[hb']at hb;obtain⟨rfl,rfl⟩:=hb;obtain⟨cap,hu,had⟩:=hpt hkm;subst had;rcases hg with⟨hg,_⟩|⟨b',cap',vs,hg,hh,_,_,_,h1,pre,rest,hvs,h2⟩
   ·rw[hg]at hu;cases hu
   ·rw[hu]at hg;cases hg;have hl:=D.gY h2;have hseg:=zX N (xK off' h2);have hpre:(vs.toList.drop off').take N=(pre.drop off').take N:=by rw[hvs,cq gq,cN (by simp;omega)]
    rw[<-hpre]at hseg;have hcell:∀j v,((vs.toList.drop off').take N)[j]?=some v->w.cell? ⟨b,off'+j,none⟩=some v:=by
     intro j v hj;rw[bS]at hj;split at hj
     ·rw[cz]at hj;simp only[World.cell?,hh,cw,av,aI];simpa using hj
     ·cases hj
    have hlen2:((vs.toList.drop off').take N).length=N:=by rw[hpre];simp;omega
    have hrun:=td (P:=P) hi (wL hg') w b off' _ hcell (by rw[hlen2,<-hN,hin]);refine⟨if ag then .agg ((vs.toList.drop off').take N).toArray else((vs.toList.drop off').take N).headD undef,_,?_,?_,hk⟩
    ·simp only[Instr.loadAt,hv,Instr.sureAddr,aU,bg,aG,hrun]
    ·cases ag with
     |true=>
      simp only[aO,AV.ok,D.ok];exact⟨((vs.toList.drop off').take N).toArray,rfl,by simpa using hseg⟩
     |false=>
      simp only[av,aI]at hN⊢;subst hN;have hltp:off'<pre.length:=by omega
      have hlt:off'<vs.toList.length:=by rw[hvs,aj];omega
      have hlt2:off'<cs.length:=by omega
      have e1:((vs.toList.drop off').take 1).headD undef=vs.toList[off']:=by rw[aH hlt];rfl
      simp only[AV.ok];rw[e1,ak,aA hlt2];refine((D.jd.1 h2).2 off' _ _ (aA hlt2) ?_).2;rw[<-aA hlt,hvs,aT hltp]
theorem Si{t n:Nat}{ag:Bool}{p:Operand}(hop:o.op=.load t p)(hn:jE P t=some n)(hg:Em P t=some ag)
 (hk:pU (if ag then n else 1) ag (ev env p) s fun x=>k (gU o.dst env x) s):mF P C o env s k:=by
 refine .value fun β a w hst=>?_
 obtain⟨v,x,h1,h2,h3⟩:=C2 (P:=P) hn hg hst (hst.ev p) hk;exact⟨v,w,β,env,s,x,by simp only[execOp,hop,aU,h1,aG,bg],hst,h2,h3⟩
end
theorem IV(β:gI)(id:Nat):gC β id (β id)=β:=by
 funext i;unfold gC;split
 ·rename_i h;rw[h]
 ·rfl
theorem St.Sz{C:Ctx}{β:gI}{env:List AV}{s:gA}{a:Act}{w w':World}(h:St C β env s a w){id b:Nat}{ob:Ob}{p:Place}
 (hbl:gw β s id b) (hsize:w'.heap.size=w.heap.size) (hio:Ec w'=Ec w) (hoth:∀b',b'≠b->w'.heap[b']?=w.heap[b']?)
 (hkeep:∀o v,w.cell? ⟨b,o,none⟩=some v->¬own β s b o->w'.cell? ⟨b,o,none⟩=some v)
 (hown:∀b' o,own (gC β id p) [(id,ob)] b' o->own β s b' o)
 (hblk:∀b',gw (gC β id p) [(id,ob)] id b'->b'=b)
 (hpl:lF (β id) p)
 (hob:∀β' F,(∀x v,AV.ok β (C.gD β s) w x v->AV.ok β' F w' x v)->(∀xs vs,AV.gO β (C.gD β s) w xs vs->AV.gO β' F w' xs vs)->
  β' id=p->tR β' F w' id ob):
 St C (gC β id p) env (sset s id ob) a w'/\lM β s w (gC β id p) (sset s id ob) w':=by
 have m:lM β s w (gC β id p) (sset s id ob) w':=by
  refine⟨gq,hio,fun b' o v hc hn=>?_,fun b' _ hn=>?_,fun b' o ho=>?_,fun i b' hb=>?_,fun i=>?_⟩
  ·by_cases hbb:b'=b
   ·subst hbb;exact hkeep o v hc hn
   ·rw[<-hc];exact dh (hoth b' hbb)
  ·exact hoth b' fun e=>hn id (e▸hbl)
  ·rcases tX ho with ho|ho
   ·exact .inl ho
   ·exact .inl (hown b' o ho)
  ·rcases ja hb with⟨_,hb⟩|⟨_,hb⟩
   ·exact .inl ⟨i,hb⟩
   ·exact .inl ⟨id,(hblk b' hb)▸hbl⟩
  ·by_cases hi:i=id
   ·subst hi;simpa[gC]using hpl
   ·simp only[gC,hi,aI];exact .refl _
 refine⟨h.move m (fun i=>?_) (fun i j b' hi hj=>?_),m⟩
 ·rw[iJ];by_cases hi:i=id
  ·subst hi;simp only[aO];exact hob _ _ (fun x v hx=>m.ok hx) (fun xs vs hx=>m.gO hx) (by simp[gC])
  ·simp only[hi,aI];refine(h.inv.obs i).uS m (by simp[gC,hi]) (fun b' hb=>hoth b' fun e=>hi ?_) rfl;subst e;exact h.inv.inj i id b' hb hbl
 ·rcases ja hi with⟨hi1,hi2⟩|⟨rfl,hi2⟩<;>rcases ja hj with⟨hj1,hj2⟩|⟨rfl,hj2⟩
  ·exact h.inv.inj i j b' hi2 hj2
  ·exact absurd (h.inv.inj i _ b' hi2 ((hblk b' hj2)▸hbl)) hi1
  ·exact absurd (h.inv.inj j _ b' hj2 ((hblk b' hi2)▸hbl)) hj1
  ·rfl
theorem St.MI{C:Ctx}{β:gI}{env:List AV}{s:gA}{a:Act}{w:World}(h:St C β env s a w){id b t:Nat}{cs cs':List AV}{vs vs':Array Value}
 (hs:sat s id=.obj t cs) (hb:β id=.blk b) (hh:w.heap[b]?=some (.cells vs t (0,0))) (h1:∀v∈vs'.toList,one v=true)
 (h2:FX β (C.gD β s) w cs' vs'.toList):St C β env (sset s id (.obj t cs')) a (w.setRow b vs'):=by
 have hbl:gw β s id b:=by unfold gw;rw[hs];exact hb
 have:=(h.Sz (id:=id) (b:=b) (ob:=.obj t cs') (p:=.blk b) (w':=w.setRow b vs') hbl (by simp) (by simp[Ec])
  (fun b' hb'=>fJ w b b' vs' (fun e=>hb' e))
  (fun o v _ hn=>absurd ⟨id,by rw[hs];exact hb⟩ hn)
  (fun b' o ho=>by
   obtain⟨i,ho⟩:=ho;by_cases hi:i=id
   ·subst hi;simp[sat,gC]at ho;subst ho;exact⟨i,by rw[hs];exact hb⟩
   ·simp[sat,hi]at ho)
  (fun b' hb'=>by simp[gw,sat,gC]at hb';exact hb'.symm)
  (by rw[hb];rfl)
  (fun β' F _ hxs hp=>⟨b,vs',hp,eF w b vs vs' t (0,0) hh,h1,h2.imp fun _ h=>hxs _ _ h⟩)).1
 rw[<-hb,IV]at this;exact this
section
variable{P:Program}{C:Ctx}{o:Oper}{env:List AV}{s:gA}{k:List AV->gA->Prop}
theorem mF.skip{P:Program}{C:Ctx}{o:Oper}{env:List AV}{s:gA}{k:List AV->gA->Prop}
 (h:∀β a w,St C β env s a w->∃w' β' env' s',(execOp a.eval o).run P w=.ok .skip w'/\St C β' env' s' a w'/\
  k (gU o.dst env' .hM) s'):mF P C o env s k:=by
 intro hnd Q β a w hst;obtain⟨w',β',env',s',hr,h1,h3⟩:=h β a w hst;refine⟨fun _ _=>trivial,?_⟩;rw[Oper.semAt_eq _ _ _ hnd,hr];exact⟨β',_,s',h1.put (x:=.hM) (v:=undef) (by simp[AV.ok]) o.dst,h3⟩
theorem uU{v:Value}(h:one v=true):v.oneCell'=true:=by cases v<;>simp_all[one,Value.oneCell']
theorem B3{x:Operand}(hop:o.op=.nilCheck x){y:AV}(hx:ev env x=y)(hy:(∃id off,y=.ptr id off)\/(∃cs,y=.pv cs)\/(∃f a b,y=.fn f a b)\/(∃id m off,y=.kH id m off)\/∃cs,y=.pa cs)
 (hk:k (gU o.dst env y) s):mF P C o env s k:=by
 refine .value fun β a w hst=>?_
 have h:=hst.ev x;rw[hx]at h;refine⟨a.eval x,w,β,env,s,y,?_,hst,h,hk⟩;rcases hy with⟨id,off,rfl⟩|⟨cs,rfl⟩|⟨f,c,d,rfl⟩|⟨id,m,off,rfl⟩|⟨cs,rfl⟩
 ·simp only[AV.ok]at h;obtain⟨b,_,h⟩:=h;simp[execOp,hop,h]
 ·simp only[AV.ok]at h;obtain⟨b,off,vs,h,_⟩:=h;simp[execOp,hop,h]
 ·simp only[AV.ok]at h;obtain⟨fs,cs,h,_⟩:=h;simp[execOp,hop,h]
 ·simp only[AV.ok]at h;obtain⟨u,m',b,off',_,_,h,_⟩:=h;simp[execOp,hop,h]
 ·simp only[AV.ok]at h;obtain⟨b,off,vs,h,_⟩:=h;simp[execOp,hop,h]
theorem QN{op:BinOp}{t t':Nat}{x y:Operand}(hop:o.op=.binOp op t x y t')
 (hk:Nx op (ev env x) (ev env y) fun r=>k (gU o.dst env r) s):mF P C o env s k:=by
 refine .value fun β a w hst=>?_
 unfold Nx at hk;split at hk
 ·rename_i j n j' m hx hy;have h1:=hst.ev x;have h2:=hst.ev y;rw[hx]at h1;rw[hy]at h2;have h1:=qK h1;have h2:=qK h2;obtain⟨hkk,hk⟩:=hk;have hguard:(eqGuard op t x y (.int j n) (.int j' m)).run P w=.ok () w:=by
   unfold eqGuard;split<;>simp
  have main:∀r:Value,one r=true->(binOp op t (.int j n) (.int j' m)).run P w=.ok r w->k (gU o.dst env (.d (.lit r))) s->
   ∃v w' β' env' s' x,(execOp a.eval o).run P w=.ok (.value v) w'/\St C β' env' s' a w'/\AV.ok β' (C.gD β' s') w' x v/\k (gU o.dst env' x) s':=by
   intro r hr hrun hk;exact⟨r,w,β,env,s,_,by simp[execOp,hop,h1,h2,hguard,hrun],hst,ve hr,hk⟩
  cases op with
  |add=>cases hkk;exact main _ rfl (by simp[binOp];rfl) hk
  |sub=>cases hkk;exact main _ rfl (by simp[binOp];rfl) hk
  |mul=>cases hkk;exact main _ rfl (by simp[binOp];rfl) hk
  |quo=>cases hkk;exact main _ rfl (by simp[binOp,Op.intDiv,hk.1]) hk.2
  |rem=>cases hkk;exact main _ rfl (by simp[binOp,Op.intDiv,hk.1]) hk.2
  |and=>cases hkk;exact main _ rfl (by simp[binOp,Op.intBits,xX]) hk
  |or=>cases hkk;exact main _ rfl (by simp[binOp,Op.intBits,Vt]) hk
  |xor=>cases hkk;exact main _ rfl (by simp[binOp,Op.intBits,Ke]) hk
  |shl=>exact main _ rfl (by simp[binOp,Op.shift,Fq,Int.not_lt.2 hk.1]) hk.2
  |shr=>exact main _ rfl (by simp[binOp,Op.shift,zD,Int.not_lt.2 hk.1]) hk.2
  |andNot=>cases hkk;exact main _ rfl (by simp[binOp,Op.intBits,HC]) hk
  |eql=>cases hkk;exact main _ rfl (by simp[binOp];rfl) hk
  |neq=>cases hkk;exact main _ rfl (by simp[binOp];rfl) hk
  |lss=>cases hkk;exact main _ rfl (by simp[binOp];rfl) hk
  |leq=>cases hkk;exact main _ rfl (by simp[binOp];rfl) hk
  |gtr=>cases hkk;exact main _ rfl (by simp[binOp];rfl) hk
  |geq=>cases hkk;exact main _ rfl (by simp[binOp];rfl) hk
 ·rename_i b c hx hy;have h1:=hst.ev x;have h2:=hst.ev y;rw[hx]at h1;rw[hy]at h2;have h1:=qK h1;have h2:=qK h2;have hguard:(eqGuard op t x y (.string b) (.string c)).run P w=.ok () w:=by
   unfold eqGuard;split<;>simp
  have main:∀r:Value,one r=true->(binOp op t (.string b) (.string c)).run P w=.ok r w->k (gU o.dst env (.d (.lit r))) s->
   ∃v w' β' env' s' x,(execOp a.eval o).run P w=.ok (.value v) w'/\St C β' env' s' a w'/\AV.ok β' (C.gD β' s') w' x v/\k (gU o.dst env' x) s':=by
   intro r hr hrun hk;exact⟨r,w,β,env,s,_,by simp[execOp,hop,h1,h2,hguard,hrun],hst,ve hr,hk⟩
  cases op with
  |add=>
   have hle:¬((b.size+c.size:Nat):Int)>IntKind.i64.max:=by
    have h0:=hk.1;have:IntKind.i64.max=9223372036854775807:=by decide
    rw[this];omega
   exact main _ rfl (by simp only[binOp,Op.stringOp];rw[ay hle];rfl) hk.2
  |eql=>exact main _ rfl (by simp only[binOp,Op.stringOp];rfl) hk
  |neq=>exact main _ rfl (by simp only[binOp,Op.stringOp];rfl) hk
  |_=>exact hk.elim
 ·exact hk.elim
theorem run_equal_bool{t:Nat}(hu:P.underlying t=some .bool)(w:World)(p q:Bool):(Op.equal t (.bool p) (.bool q)).run P w=.ok (p==q) w:=by
 have hd:Op.maxDepth=9999+1:=rfl;unfold Op.equal;rw[hd];unfold Op.equalIn;simp only[aU,a_ hu,aG];rfl
theorem Ms{op:BinOp}{t t':Nat}{x y:Operand}(hop:o.op=.binOp op t x y t')(hu:P.underlying t=some .bool){neg:Bool}
 (hn:(op=.eql/\neg=false)\/(op=.neq/\neg=true)) {p q:Bool} (hx:ev env x=.d (.lit (.bool p))) (hy:ev env y=.d (.lit (.bool q)))
 (hk:k (gU o.dst env (.d (bD (if neg then p != q else p==q)))) s):mF P C o env s k:=by
 refine .value fun β a w hst=>?_
 have h1:=hst.ev x;have h2:=hst.ev y;rw[hx]at h1;rw[hy]at h2;have h1:=qK h1;have h2:=qK h2;refine⟨.bool (if neg then p != q else p==q),w,β,env,s,_,?_,hst,ve rfl,hk⟩;have hguard:(eqGuard op t x y (.bool p) (.bool q)).run P w=.ok () w:=by
  unfold eqGuard;split<;>simp
 rcases hn with⟨rfl,rfl⟩|⟨rfl,rfl⟩
 ·simp[execOp,hop,h1,h2,hguard,binOp,run_equal_bool hu]
 ·simp[execOp,hop,h1,h2,hguard,binOp,run_equal_bool hu,bne]
theorem Fl{op:BinOp}{t t' e:Nat}{x y:Operand}(hop:o.op=.binOp op t x y t')(hu:P.underlying t=some (.slice e))(hy:uu y=true){neg:Bool}
 (hn:(op=.eql/\neg=false)\/(op=.neq/\neg=true))
 (hx:∀β a w,St C β env s a w->∃(ad:Option Addr)(n cap:Nat)(b:Bool),a.eval x=.slice ad n cap/\ad.isNone=b/\k (gU o.dst env (.d (bD (if neg then !b else b)))) s):mF P C o env s k:=by
 refine .value fun β a w hst=>?_
 obtain⟨ad,n,cap,b,h1,h3,hk⟩:=hx β a w hst;have h2:a.eval y=.slice none 0 0:=by
  unfold uu at hy;split at hy
  ·rfl
  ·cases hy
 refine⟨.bool (if neg then !b else b),w,β,env,s,_,?_,hst,ve rfl,hk⟩;have hguard:(eqGuard op t x y (.slice ad n cap) (.slice none 0 0)).run P w=.ok () w:=by
  unfold eqGuard;split<;>simp
 have heq:(Op.equal t (.slice ad n cap) (.slice none 0 0)).run P w=.ok b w:=by
  subst h3;have hd:Op.maxDepth=9999+1:=rfl;unfold Op.equal;rw[hd];unfold Op.equalIn;simp only[aU,a_ hu,aG];cases ad<;>rfl
 rcases hn with⟨rfl,rfl⟩|⟨rfl,rfl⟩
 ·simp[execOp,hop,h1,h2,hguard,binOp,heq]
 ·simp[execOp,hop,h1,h2,hguard,binOp,heq]
theorem Iq{op:BinOp}{t t' e:Nat}{x y:Operand}(hop:o.op=.binOp op t x y t')(hu:P.underlying t=some (.slice e))(hy:uu y=true){neg:Bool}
 (hn:(op=.eql/\neg=false)\/(op=.neq/\neg=true)) {b:Bool} (hx:xb (ev env x)=some b)
 (hk:k (gU o.dst env (.d (bD (if neg then !b else b)))) s):mF P C o env s k:=Fl hop hu hy hn fun _ _ _ hst=>
 let⟨ad,n,cap,h1,h3⟩:=R6 (hst.ev x) hx;⟨ad,n,cap,b,h1,h3,hk⟩
theorem Fo{op:BinOp}{t t' e:Nat}{x y:Operand}(hop:o.op=.binOp op t x y t')(hu:P.underlying t=some (.slice e))(hy:uu y=true){neg:Bool}
 (hn:(op=.eql/\neg=false)\/(op=.neq/\neg=true)) {e':Nat} {xs:List D} (hx:pN (ev env x)=some (e',xs))
 (hk1:xs=[]->k (gU o.dst env (.d (bD (if neg then !true else true)))) s) (hk2:k (gU o.dst env (.d (bD (if neg then !false else false)))) s):mF P C o env s k:=
 Fl hop hu hy hn fun β a w hst=>by
  obtain⟨ad,cap,h1,_,_,h4⟩:=xw (hst.ev x) hx;cases ad with
  |some p=>exact⟨_,_,_,false,h1,rfl,hk2⟩
  |none=>
   refine⟨_,_,_,true,h1,rfl,hk1 ?_⟩;rcases h4 with h4|⟨b,o,h4,_⟩
   ·exact h4
   ·cases h4
theorem Vf{t:Nat}{x:Operand}(hop:o.op=.unOp .not t x){b:Bool}(hx:ev env x=.d (.lit (.bool b)))
 (hk:k (gU o.dst env (.d (bD (!b)))) s):mF P C o env s k:=by
 refine .pure (x:=.d (bD (!b))) (fun β a w hst=>?_) hk;have h:=hst.ev x;rw[hx]at h;have h:=qK h;exact⟨.bool (!b),by simp[execOp,hop,h,Op.unary],ve rfl⟩
theorem Ve{t:Nat}{x:Operand}(hop:o.op=.unOp .neg t x){j:IntKind}{n:Int}(hx:ev env x=.d (.lit (.int j n)))
 (hk:k (gU o.dst env (.d (.lit (.int j (j.wrap (0-n)))))) s):mF P C o env s k:=by
 refine .pure (x:=.d (.lit (.int j (j.wrap (0-n))))) (fun β a w hst=>?_) hk;have h:=hst.ev x;rw[hx]at h;have h:=qK h;exact⟨.int j (j.wrap (0-n)),by simp[execOp,hop,h,Op.unary,Op.intArith],ve rfl⟩
theorem Sg{t u:Nat}{x:Operand}(hop:o.op=.convert t u x){j':IntKind}(ht:∃j,P.underlying t=some (.int j))(hu:P.underlying u=some (.int j'))
 {j:IntKind} {n:Int} (hx:ev env x=.d (.lit (.int j n)))
 (hk:k (gU o.dst env (.d (.lit (.int j' (j'.wrap n))))) s):mF P C o env s k:=by
 refine .pure (x:=.d (.lit (.int j' (j'.wrap n)))) (fun β a w hst=>?_) hk;have h:=hst.ev x;rw[hx]at h;have h:=qK h;obtain⟨j0,ht⟩:=ht;exact⟨.int j' (j'.wrap n),by simp[execOp,hop,h,convert,a_ ht,a_ hu,Conv.intToInt],ve rfl⟩
theorem Dv{β:gI}{a:Act}{w:World}(hst:St C β env s a w):∀(xs:List Operand),AV.gO β (C.gD β s) w (xs.map (ev env)) (xs.map a.eval)
 |[]=>by simp[AV.gO]
 |x::xs=>by simp only[aZ,AV.gO];exact⟨_,_,rfl,hst.ev x,Dv hst xs⟩
theorem Sj{f:Nat}{first cap:Array Operand}(hop:o.op=.makeFunc (.func f) first cap)
 (hk:k (gU o.dst env (.fn f (first.toList.map (ev env)) (cap.toList.map (ev env)))) s):mF P C o env s k:=by
 refine .pure (x:=.fn f (first.toList.map (ev env)) (cap.toList.map (ev env))) (fun β a w hst=>?_) hk;refine⟨.func (.func f) (first.map a.eval) (cap.map a.eval),by simp[execOp,hop,Instr.makeFunc],?_⟩;simp only[AV.ok];exact⟨_,_,rfl,by simpa using Dv hst first.toList,by simpa using Dv hst cap.toList⟩
theorem Va{x:Operand}{i:Nat}(hop:o.op=.extract x i){cs:List AV}(hx:ev env x=.l_ cs)(hi:i<cs.length)
 (hk:k (gU o.dst env (cs.getD i .hM)) s):mF P C o env s k:=by
 refine .value fun β a w hst=>?_
 have h:=hst.ev x;rw[hx]at h;simp only[AV.ok]at h;obtain⟨vs,h1,h2⟩:=h;have hl:=AV.gY h2;have hlt:i<vs.size:=by simpa[<-hl]using hi
 refine⟨vs[i],w,β,env,s,_,by simp[execOp,hop,h1,Instr.extract,cK hlt],hst,?_,hk⟩;rw[ak,aA hi];exact(AV.jd.1 h2).2 i _ _ (aA hi) (by simp[cK hlt])
theorem Vc{c:Call}(hop:o.op=.call c)(hc:c.callee=.builtin .min){x y:Operand}(ha:c.args=#[x,y]){j:IntKind}{n m:Int}
 (hx:ev env x=.d (.lit (.int j n))) (hy:ev env y=.d (.lit (.int j m)))
 (hk:k (gU o.dst env (.d (.lit (.int j (if m<n then m else n))))) s):mF P C o env s k:=by
 refine .pure (x:=.d (.lit (.int j (if m<n then m else n)))) (fun β a w hst=>?_) hk;have h1:=hst.ev x;have h2:=hst.ev y;rw[hx]at h1;rw[hy]at h2;have h1:=qK h1;have h2:=qK h2;exact⟨.int j (if m<n then m else n),by simp[execOp,hop,resolve,hc,ha,h1,h2,invoke,builtin,Builtin.min_,Builtin.min2],ve rfl⟩
theorem Ir{t f:Nat}{p:Operand}(hop:o.op=.fieldAddr t p f){fs:Array Field}(hu:P.underlying t=some (.struct fs)){fd:Field}(hf:fs[f]?=some fd)
 {n:Nat} (hn:jE P fd.type=some n) (h0:n≠0) {r:AV}
 (hr:(∃id off,ev env p=.ptr id off/\r=.ptr id (off+fd.offset))\/(∃cs,ev env p=.pv cs/\r=.pv (cs.drop fd.offset))\/(∃id m off,ev env p=.kH id m off/\r=.kH id m (off+fd.offset))\/(∃cs,ev env p=.pa cs/\r=.pa (cs.drop fd.offset)))
 (hk:k (gU o.dst env r) s):mF P C o env s k:=by
 refine .value fun β a w hst=>?_
 obtain⟨i,hi,hin⟩:∃i,P.info? fd.type=some i/\i.size=n:=by
  unfold jE at hn;cases hq:P.info? fd.type with
  |none=>simp[hq]at hn
  |some i=>exact⟨i,rfl,by simpa[hq]using hn⟩
 have hp:=hst.ev p;have hplace:∀b off,(fieldPlace ⟨b,off,none⟩ fd).run P w=.ok ⟨b,off+fd.offset,none⟩ w:=by
  intro b off;simp[fieldPlace,Go.sizeOf,typeInfo,hi,hin,h0,dz]
 rcases hr with⟨id,off,he,rfl⟩|⟨cs,he,rfl⟩|⟨id,m,off,he,rfl⟩|⟨cs,he,rfl⟩
 ·rw[he]at hp;simp only[AV.ok]at hp;obtain⟨b,hb,hv⟩:=hp;refine⟨.pointer (some ⟨b,off+fd.offset,none⟩),w,β,env,s,_,?_,hst,?_,hk⟩
  ·simp[execOp,hop,Instr.fieldAt,a_ hu,hf,hv,Instr.sureAddr,hplace]
  ·simp only[AV.ok];exact⟨b,hb,rfl⟩
 ·rw[he]at hp;simp only[AV.ok]at hp;obtain⟨b,off,vs,hv,hc,h2⟩:=hp;refine⟨.pointer (some ⟨b,off+fd.offset,none⟩),w,β,env,s,_,?_,hst,?_,hk⟩
  ·simp[execOp,hop,Instr.fieldAt,a_ hu,hf,hv,Instr.sureAddr,hplace]
  ·simp only[AV.ok];refine⟨b,off+fd.offset,vs.drop fd.offset,rfl,fun j v hj=>?_,xK _ h2⟩;rw[cz]at hj;have:=hc _ v hj;rwa [<-cQ]at this
 ·rw[he]at hp;simp only[AV.ok]at hp;obtain⟨u,m',b,off',hb,hle,hv,hpt⟩:=hp;refine⟨.pointer (some ⟨b,off'+fd.offset,none⟩),w,β,env,s,_,?_,hst,?_,hk⟩
  ·simp[execOp,hop,Instr.fieldAt,a_ hu,hf,hv,Instr.sureAddr,hplace]
  ·simp only[AV.ok];refine⟨u,m',b,off'+fd.offset,hb,hle,rfl,fun e=>?_⟩;obtain⟨cap,h1,h2⟩:=hpt e;exact⟨cap,h1,by rw[h2]⟩
 ·rw[he]at hp;simp only[AV.ok]at hp;obtain⟨b,off,vs,hv,hc,h2⟩:=hp;refine⟨.pointer (some ⟨b,off+fd.offset,none⟩),w,β,env,s,_,?_,hst,?_,hk⟩
  ·simp[execOp,hop,Instr.fieldAt,a_ hu,hf,hv,Instr.sureAddr,hplace]
  ·simp only[AV.ok];refine⟨b,off+fd.offset,vs.drop fd.offset,rfl,fun j v hj=>?_,xe _ h2⟩;rw[cz]at hj;have:=hc _ v hj;rwa [<-cQ]at this
end
section
variable{P:Program}{C:Ctx}{o:Oper}{env:List AV}{s:gA}{k:List AV->gA->Prop}
theorem jN{t n:Nat}(hn:jE P t=some n):∃i,P.info? t=some i/\i.size=n:=by
 unfold jE at hn;cases hq:P.info? t with
 |none=>simp[hq]at hn
 |some i=>exact⟨i,rfl,by simpa[hq]using hn⟩
theorem sN{t n:Nat}(hn:vL P t=some n):∃i,P.info? t=some i/\i.bytes=n:=by
 unfold vL at hn;cases hq:P.info? t with
 |none=>simp[hq]at hn
 |some i=>exact⟨i,rfl,by simpa[hq]using hn⟩
theorem mR{t e:Nat}(hn:CR P t=some e):P.underlying t=some (.slice e):=by
 unfold CR at hn;split at hn
 ·cases hn;assumption
 ·cases hn
theorem xo{t e:Nat}{i:TypeInfo}(hu:P.underlying t=some (.slice e))(hi:P.info? e=some i)(w:World)(b off len cap:Nat)(j:IntKind)(n:Int)
 (h0:0<=n) (hn:n<len):(Instr.indexAt t (.slice (some ⟨b,off,none⟩) len cap) (.int j n)).run P w=.ok (.pointer (some ⟨b,off+n.toNat*i.size,none⟩)) w:=by
 simp[Instr.indexAt,asIntOf,a_ hu,h0,hn,Go.sizeOf,typeInfo,hi,dz]
theorem Vb{t e n:Nat}{x ix:Operand}(hop:o.op=.indexAddr t x ix)(hu:P.underlying t=some (.slice e))(hn:jE P e=some n)
 (hk:Om n (ev env x) (ev env ix) fun r=>k (gU o.dst env r) s):mF P C o env s k:=by
 refine .value fun β a w hst=>?_
 obtain⟨i,hi,hin⟩:=jN hn;unfold Om at hk;split at hk
 ·exact hk.elim
 ·rename_i m hm;obtain⟨j,hv⟩:=rK (hst.ev ix) hm;have hx:=hst.ev x;split at hk
  ·rename_i e' id off len hxe;obtain⟨rfl,h0,h1,hk⟩:=hk;rw[hxe]at hx;simp only[AV.ok]at hx;obtain⟨b,cap,hb,_,hxv⟩:=hx;refine⟨.pointer (some ⟨b,off+m.toNat*i.size,none⟩),w,β,env,s,_,?_,hst,?_,hk⟩
   ·simp only[execOp,hop,hxv,hv,aU,xo hu hi w b off len cap j m h0 h1,aG,bg]
   ·simp only[AV.ok,hin];exact⟨b,hb,rfl⟩
  ·rename_i e' id len hxe;obtain⟨rfl,h0,h1,hk⟩:=hk;rw[hxe]at hx;simp only[AV.ok]at hx;obtain⟨u,q,hb,hle,heq,⟨_,hxv,hl0⟩|⟨g,cap,hxv,_,_⟩⟩:=hx
   ·subst hl0;omega
   ·refine⟨.pointer (some ⟨g,0+m.toNat*i.size,none⟩),w,β,env,s,_,?_,hst,?_,hk⟩
    ·simp only[execOp,hop,hxv,hv,aU,xo hu hi w g 0 len cap j m h0 h1,aG,bg]
    ·simp only[AV.ok,hin];refine⟨u,q,g,_,hb,hle,rfl,fun e=>⟨cap,?_,by simp⟩⟩;rw[<-heq e.symm,hxv,e]
  ·split at hk
   ·rename_i e' xs hxs;obtain⟨rfl,h0,h1,hk⟩:=hk;obtain⟨ad,cap,hxv,_,_,hrow⟩:=xw hx hxs;rcases hrow with hrow|⟨b,off,rfl,hrow⟩
    ·subst hrow;simp at h1;omega
    ·have hlt:m.toNat<xs.length:=by omega
     obtain⟨vs,hvs,hc,hcel⟩:=zA hrow (aA hlt);refine⟨.pointer (some ⟨b,off+m.toNat*i.size,none⟩),w,β,env,s,_,?_,hst,?_,hk⟩
     ·simp only[execOp,hop,hxv,hv,aU,xo hu hi w b off xs.length cap j m h0 h1,aG,bg]
     ·simp only[AV.ok];refine⟨b,_,vs,rfl,by rw[hin];exact hc,?_⟩;rw[ak,aA hlt];exact HQ hcel hc
   ·exact hk.elim
theorem Mw{t e n len:Nat}{x ix:Operand}(hop:o.op=.indexAddr t x ix)(hu:P.underlying t=some (.array len e))(hn:jE P e=some n)
 {m:Int} (hm:iN (ev env ix)=some m) (h0:0<=m) (h1:m<len) {r:AV}
 (hr:(∃id off,ev env x=.ptr id off/\r=.ptr id (off+m.toNat*n))\/(∃cs,ev env x=.pv cs/\r=.pv (cs.drop (m.toNat*n))))
 (hk:k (gU o.dst env r) s):mF P C o env s k:=by
 refine .value fun β a w hst=>?_
 obtain⟨i,hi,hin⟩:=jN hn;obtain⟨j,hv⟩:=rK (hst.ev ix) hm;have hx:=hst.ev x;have hrun:∀b off,(Instr.indexAt t (.pointer (some ⟨b,off,none⟩)) (.int j m)).run P w=.ok (.pointer (some ⟨b,off+m.toNat*n,none⟩)) w:=by
  intro b off;simp[Instr.indexAt,asIntOf,a_ hu,h0,h1,Go.sizeOf,typeInfo,hi,hin,dz,Instr.sureAddr]
 rcases hr with⟨id,off,he,rfl⟩|⟨cs,he,rfl⟩
 ·rw[he]at hx;simp only[AV.ok]at hx;obtain⟨b,hb,hxv⟩:=hx;refine⟨.pointer (some ⟨b,off+m.toNat*n,none⟩),w,β,env,s,_,by simp only[execOp,hop,hxv,hv,aU,hrun,aG,bg],hst,?_,hk⟩;simp only[AV.ok];exact⟨b,hb,rfl⟩
 ·rw[he]at hx;simp only[AV.ok]at hx;obtain⟨b,off,vs,hxv,hc,h2⟩:=hx;refine⟨.pointer (some ⟨b,off+m.toNat*n,none⟩),w,β,env,s,_,by simp only[execOp,hop,hxv,hv,aU,hrun,aG,bg],hst,?_,hk⟩;simp only[AV.ok];refine⟨b,_,vs.drop (m.toNat*n),rfl,fun q v hj=>?_,xK _ h2⟩;rw[cz]at hj;have:=hc _ v hj;rwa [<-cQ]at this
theorem Mx{c:Call}(hop:o.op=.call c)(hc:c.callee=.builtin .len){x:Operand}(ha:c.args=#[x]){t:Nat}(ht:c.argTypes[0]?=some t)
 {e:Nat} (hu:P.underlying t=some (.slice e)) {n:Nat}
 (hv:∀β w v,AV.ok β (C.gD β s) w (ev env x) v->∃a cap,v=.slice a n cap)
 (hk:k (gU o.dst env (.d (iD n))) s):mF P C o env s k:=by
 refine .pure (x:=.d (iD n)) (fun β a w hst=>?_) hk;obtain⟨ad,cap,hx⟩:=hv _ _ _ (hst.ev x);exact⟨.int .i64 n,by simp[execOp,hop,resolve,hc,ha,invoke,builtin,Builtin.len_,ht,a_ hu,hx,goInt],ve rfl⟩
theorem Fj{O:Own}{w:World}{b e:Nat}:∀{xs:List D}{o:Nat}(l:Nat),D.row O w b o e xs->D.row O w b (o+l*e) e (xs.drop l)
 |[],o,l=>fun _=>by simp[D.row]
 |x::xs,o,0=>fun h=>by simpa using h
 |x::xs,o,l+1=>fun h=>by
  rw[D.lY]at h;have:=Fj l h.2;have e1:o+e+l*e=o+(l+1)*e:=by rw[bC];omega
  rw[e1]at this;simpa using this
theorem BX{O:Own}{w:World}{b e:Nat}:∀{xs:List D}{o:Nat}(l:Nat),D.row O w b o e xs->D.row O w b o e (xs.take l)
 |[],o,l=>fun _=>by simp[D.row]
 |x::xs,o,0=>fun _=>by simp[D.row]
 |x::xs,o,l+1=>fun h=>by
  rw[D.lY]at h;rw[dL,D.lY];exact⟨h.1,BX l h.2⟩
theorem F5{β:gI}{a:Act}{w:World}(hst:St C β env s a w){d n:Int}{x:Option Operand}(h:Dk env d x=some n):
 (x=none/\n=d)\/∃y j,x=some y/\a.eval y=.int j n:=by
 cases x with
 |none=>simp only[Dk,aQ]at h;exact .inl ⟨rfl,h.symm⟩
 |some y=>
  simp only[Dk]at h;obtain⟨j,hj⟩:=rK (hst.ev y) h;exact .inr ⟨y,j,rfl,hj⟩
theorem wu{β:gI}{a:Act}{w:World}(hst:St C β env s a w){lo hi:Option Operand}{l h:Int}(len cap:Nat)
 (hl:Dk env 0 lo=some l) (hh:Dk env len hi=some h) (h0:0<=l) (h1:l<=h) (h2:h<=len) (hc:len<=cap):
 (Instr.sliceBounds true len cap (lo.map a.eval) (hi.map a.eval) none).run P w=.ok (l.toNat,h.toNat,cap) w:=by
 have hb:∀(j:IntKind)(n:Int)(y:Nat)(c:BoundsCode),0<=n->n<=y->(Instr.sliceBound (.int j n) y c).run P w=.ok n.toNat w:=by
  intro j n y c h3 h4;simp[Instr.sliceBound,asIntOf,h3,h4]
 rcases F5 hst hh with⟨rfl,rfl⟩|⟨yh,jh,rfl,eh⟩<;>rcases F5 hst hl with⟨rfl,rfl⟩|⟨yl,jl,rfl,el⟩
 ·simp[Instr.sliceBounds]
 ·simp only[Instr.sliceBounds,eN,aV,el,aU,bg,aG];rw[hb jl l len _ h0 h1];simp
 ·simp only[Instr.sliceBounds,eN,aV,eh,aU,bg,aG];rw[hb jh h cap _ gq gq];simp
 ·simp only[Instr.sliceBounds,aV,eh,el,aU,bg,aG];rw[hb jh h cap _ gq gq];simp only[aG];rw[hb jl l h.toNat _ h0 gq];simp
theorem Vg{t e n:Nat}{x:Operand}{lo hi:Option Operand}(hop:o.op=.slice t x lo hi none)(hu:P.underlying t=some (.slice e))(hn:jE P e=some n)
 {xs:List D} {e':Nat} (hxs:pN (ev env x)=some (e',xs)) (he:xs=[]\/e'=n) (hk:O9 (ev env x) (Dk env 0 lo) (Dk env xs.length hi) fun r=>k (gU o.dst env r) s):mF P C o env s k:=by
 refine .value fun β a w hst=>?_
 obtain⟨i,hi',hin⟩:=jN hn;obtain⟨ad,cap,hxv,hcap,hnl,hrow⟩:=xw (hst.ev x) hxs;unfold O9 at hk;rw[hxs]at hk;split at hk
 ·rename_i e2 ys l h he2 hl hh;cases he2;obtain⟨h0,h1,h2,hk⟩:=hk;have hcap1:xs.length<=cap:=hcap.1;have hrun:=wu (P:=P) hst (lo:=lo) (hi:=hi) xs.length cap hl hh h0 h1 h2 hcap.1;refine⟨.slice (if cap=l.toNat then ad else ad.map (·.add (l.toNat*n))) (h.toNat-l.toNat) (cap-l.toNat),w,β,env,s,_,?_,hst,?_,hk⟩
  ·simp only[execOp,hop,Instr.sliceAt,aU,a_ hu,aG,hxv];simp[Instr.slice,a_ hu,hrun,Go.sizeOf,typeInfo,hi',hin]
  ·simp only[AV.ok,D.ok];have hlen:((xs.take h.toNat).drop l.toNat).length=h.toNat-l.toNat:=by simp;omega
   refine⟨_,_,by rw[hlen],by rw[hlen];exact⟨gq,by have:=hcap.2;omega⟩,?_,?_⟩
   ·cases hq:xb (ev env x)with
    |none=>trivial
    |some b=>
     have:=hnl b hq;cases b with
     |true=>
      obtain⟨rfl,rfl⟩:=this;refine⟨?_,gq⟩;split<;>rfl
     |false=>
      show _≠none;split
      ·exact this
      ·cases ad with
       |none=>exact absurd rfl this
       |some a=>simp
   ·rcases hrow with hrow|⟨b,off,rfl,hrow⟩
    ·subst hrow;left;simp
    ·by_cases hz:(xs.take h.toNat).drop l.toNat=[]
     ·exact .inl hz
     ·right;have hlt:l.toNat<h.toNat:=by
       rcases cu l.toNat h.toNat with h3|h3
       ·exact h3
       ·exfalso;apply hz;apply bU.1;rw[hlen];omega
      have hne:cap≠l.toNat:=by omega
      rcases he with he|he
      ·subst he;simp at hz
      ·subst he;exact⟨b,off+l.toNat*e',by rw[ay hne];simp[dz],Fj _ (BX _ hrow)⟩
 ·exact hk.elim
theorem Sm{t e n:Nat}{x hh m:Operand}(hop:o.op=.slice t x none (some hh) (some m))(hu:P.underlying t=some (.slice e))(hn:jE P e=some n)
 {xs:List D} {e':Nat} (hxs:pN (ev env x)=some (e',xs)) {h:Int} (h1:iN (ev env hh)=some h) (h2:iN (ev env m)=some h) (h0:0<=h) (hle:h<=xs.length)
 (hk:k (gU o.dst env (.Ac e' (xs.take h.toNat))) s):mF P C o env s k:=by
 refine .value fun β a w hst=>?_
 obtain⟨i,hi',hin⟩:=jN hn;obtain⟨ad,cap,hxv,hcap,hnl,hrow⟩:=xw (hst.ev x) hxs;obtain⟨jh,eh⟩:=rK (hst.ev hh) h1;obtain⟨jm,em⟩:=rK (hst.ev m) h2;have hcap1:xs.length<=cap:=hcap.1;have hb:∀(j:IntKind)(n:Int)(y:Nat)(c:BoundsCode),0<=n->n<=y->(Instr.sliceBound (.int j n) y c).run P w=.ok n.toNat w:=by
  intro j n y c h3 h4;simp[Instr.sliceBound,asIntOf,h3,h4]
 have hrun:(Instr.sliceBounds true xs.length cap none (some (a.eval hh)) (some (a.eval m))).run P w=.ok (0,h.toNat,h.toNat) w:=by
  simp only[Instr.sliceBounds,eh,em,aU,bg,aG];rw[hb jm h cap _ h0 gq];simp only[aG];rw[hb jh h h.toNat _ h0 gq];simp
 have hlen:(xs.take h.toNat).length=h.toNat:=by simp;omega
 refine⟨.slice (if h.toNat=0 then ad else ad.map (·.add 0)) h.toNat h.toNat,w,β,env,s,_,?_,hst,?_,hk⟩
 ·simp only[execOp,hop,Instr.sliceAt,aU,a_ hu,aG,hxv];simp[Instr.slice,a_ hu,hrun,Go.sizeOf,typeInfo,hi',hin]
 ·have had:(if h.toNat=0 then ad else ad.map (·.add 0))=ad:=by
   split
   ·rfl
   ·cases ad<;>simp[Addr.add]
  rw[had];simp only[AV.ok,D.ok];refine⟨ad,by rw[hlen],ad,h.toNat,by rw[hlen],by rw[hlen];exact⟨au _,by have:=hcap.2;omega⟩,trivial,?_⟩;rcases hrow with hrow|⟨b,off,rfl,hrow⟩
  ·left;rw[hrow];simp
  ·right;exact⟨b,off,rfl,BX _ hrow⟩
theorem Mz{t e n len:Nat}{x:Operand}{hi:Option Operand}(hlen:len<2^62)(hop:o.op=.slice t x none hi none)(hu:P.underlying t=some (.array len e))(hn:jE P e=some n)
 {id off:Nat} (hx:ev env x=.ptr id off) {h:Int} (hh:Dk env len hi=some h) (h0:0<=h) (h1:h<=len)
 (hk:k (gU o.dst env (.mm n id off h.toNat)) s):mF P C o env s k:=by
 refine .value fun β a w hst=>?_
 obtain⟨i,hi',hin⟩:=jN hn;have hv:=hst.ev x;rw[hx]at hv;simp only[AV.ok]at hv;obtain⟨b,hb,hxv⟩:=hv;refine⟨.slice (some ⟨b,off,none⟩) h.toNat len,w,β,env,s,_,?_,hst,?_,hk⟩
 ·have hsb:(Instr.sliceBounds false len len none (hi.map a.eval) none).run P w=.ok (0,h.toNat,len) w:=by
   rcases F5 hst hh with⟨rfl,rfl⟩|⟨yh,jh,rfl,eh⟩
   ·simp[Instr.sliceBounds]
   ·simp[Instr.sliceBounds,eh,Instr.sliceBound,asIntOf,h0,h1]
  simp[execOp,hop,Instr.sliceAt,a_ hu,hxv,Instr.sureAddr,hsb,Go.sizeOf,typeInfo,hi'];simp[Addr.add]
 ·simp only[AV.ok];exact⟨b,len,hb,gq,rfl⟩
end
theorem jI.append{O:Own}{w:World}{b o:Nat}{vs us:List Value}(h:jI O w b o vs)(k:jI O w b (o+vs.length) us):jI O w b o (vs++us):=by
 intro j v hj;rw[List.getElem?_append]at hj;split at hj
 ·exact h j v hj
 ·rename_i hlt;have:=k _ v hj;have e1:o+vs.length+(j-vs.length)=o+j:=by omega
  rwa [e1]at this
theorem xm{O:Own}{w:World}{b e:Nat}:∀{xs:List D}{o:Nat},D.row O w b o e xs->
 ∃vs,vs.length=xs.length*e/\jI O w b o vs/\∀(O':Own)(w':World)(b' o':Nat),
  (∀b o v,w.cell? ⟨b,o,none⟩=some v->¬O b o->w'.cell? ⟨b,o,none⟩=some v/\¬O' b o)->jI O' w' b' o' vs->D.row O' w' b' o' e xs
 |[],o=>fun _=>⟨[],by simp,fun j v hj=>by simp at hj,fun _ _ _ _ _ _=>by simp[D.row]⟩
 |x::xs,o=>fun h=>by
  rw[D.lY]at h;obtain⟨⟨us,h1,h2,h3⟩,h4⟩:=h;obtain⟨vs,k1,k2,k3⟩:=xm h4;refine⟨us++vs,by simp[h1,k1,bC];omega,h2.append (by rw[h1];exact k2),fun O' w' b' o' hm hc=>?_⟩;rw[D.lY];refine⟨⟨us,h1,fun j v hj=>?_,?_⟩,k3 O' w' b' (o'+e) hm fun j v hj=>?_⟩
  ·have hlt:j<us.length:=(aP.1 hj).1;exact hc j v (by rw[aT hlt];exact hj)
  ·cases x with
   |agg cs=>exact D.jb hm _ _ h3
   |any=>obtain⟨v,h5,h6⟩:=h3;exact⟨v,h5,D.jH hm _ _ h6⟩
   |lit u=>obtain⟨v,h5,h6⟩:=h3;exact⟨v,h5,D.jH hm _ _ h6⟩
   |sl e' nl ys=>obtain⟨v,h5,h6⟩:=h3;exact⟨v,h5,D.jH hm _ _ h6⟩
  ·have:=hc (us.length+j) v (by rw[bI gq];simpa using hj);rw[h1]at this;rwa [cQ]
theorem vZ{O:Own}{w:World}{b e:Nat}:∀{xs ys:List D}{o:Nat},D.row O w b o e xs->D.row O w b (o+xs.length*e) e ys->D.row O w b o e (xs++ys)
 |[],ys,o=>fun _ h=>by simpa using h
 |x::xs,ys,o=>fun h k=>by
  rw[D.lY]at h;rw[cg,D.lY];refine⟨h.1,vZ h.2 ?_⟩;have e1:o+(x::xs).length*e=o+e+xs.length*e:=by simp[bC];omega
  rwa [e1]at k
theorem uX{O:Own}{w:World}{b o:Nat}{c:Array Value}{t:Nat}{fr:Nat×Nat}{vs:List Value}(hh:w.heap[b]?=some (.cells c t fr))
 (hc:∀j v,vs[j]?=some v->c.toList[o+j]?=some v) (ho:∀j,j<vs.length->¬O b (o+j)) (h1:∀v∈vs,one v=true):jI O w b o vs:=by
 intro j v hj;have hlt:j<vs.length:=(aP.1 hj).1;refine⟨?_,ho j hlt,h1 v (bR hj)⟩;simp only[World.cell?,hh,cw,av,aI];simpa using hc j v hj
theorem jI.one{O:Own}{w:World}{b o:Nat}{vs:List Value}(h:jI O w b o vs):∀v∈vs,one v=true:=fun v hv=>by
 obtain⟨i,hi⟩:=cB hv;exact(h i v hi).2.2
theorem vX{C:Ctx}{β:gI}{env:List AV}{s:gA}{a:Act}{w:World}(h:St C β env s a w){id t e n cap:Nat}{c:Array Value}{xs:List D}
 (hpl:lF (β id) (.tok (.slice (some ⟨w.heap.size,0,none⟩) n cap) n))
 (hsz:c.size=cap*e) (hn:n<=cap) (hcap:cap<2^63) (h1:∀v∈c.toList,one v=true) (hx:xs.length=n)
 (hrow:∀(O':Own)(w':World),(∀b o v,w.cell? ⟨b,o,none⟩=some v->¬C.gD β s b o->w'.cell? ⟨b,o,none⟩=some v/\¬O' b o)->
  jI O' w' w.heap.size 0 (c.toList.take (n*e))->D.row O' w' w.heap.size 0 e xs):
 ∃β',St C β' env (sset s id (.tok t e n)) a (w.alloc (.cells c t))/\
  AV.ok β' (C.gD β' (sset s id (.tok t e n))) (w.alloc (.cells c t)) (.own e id xs) (.slice (some ⟨w.heap.size,0,none⟩) n cap):=by
 obtain⟨h2,m⟩:=h.fresh (id:=id) (ob:=.tok t e n) (p:=.tok (.slice (some ⟨w.heap.size,0,none⟩) n cap) n) (c:=c) (t:=t) hpl
  (fun b o ho=>by
   obtain⟨i,ho⟩:=ho;by_cases hi:i=id
   ·subst hi;simp only[sat,aO,gC]at ho;obtain⟨cap',ho,_⟩:=ho;simp at ho;exact ho.1.symm
   ·simp[sat,hi]at ho)
  (fun b hb=>by
   simp only[gw,sat,aO,gC]at hb;obtain⟨cap',hb⟩:=hb;simp at hb;exact hb.1.symm)
  (fun β' F _ _ hp=>⟨_,hp,.inr ⟨w.heap.size,cap,c,rfl,dr,hsz,hn,hcap,h1⟩⟩)
 refine⟨_,h2,?_⟩;simp only[AV.ok,D.ok];refine⟨⟨_,cap,by rw[hx],⟨gq,hcap⟩,trivial,?_⟩,_,n,by simp[gC,Place.at],gq,fun _=>rfl⟩;right;refine⟨w.heap.size,0,rfl,hrow _ _ m.stays ?_⟩;refine uX dr (fun j v hj=>?_) (fun j hj hf=>?_) (fun v hv=>h1 v (bE hv))
 ·rw[bS]at hj;split at hj
  ·simpa using hj
  ·cases hj
 ·rcases hf with hf|hf
  ·have:=(h.inv.low _ _ hf).1;have:=h.inv.size;omega
  ·rcases tX hf with hf|hf
   ·have:=h.inv.G3 hf;omega
   ·obtain⟨i,hf⟩:=hf;by_cases hi:i=id
    ·subst hi;simp only[sat,aO,gC]at hf;obtain⟨_,_,hf⟩:=hf;have:(c.toList.take (n*e)).length<=n*e:=List.length_take_le _ _;omega
    ·simp[sat,hi]at hf
theorem G4{C:Ctx}{β:gI}{env:List AV}{s:gA}{a:Act}{w:World}(h:St C β env s a w){id:Nat}(t e:Nat)(hd:sat s id=.dead):
 ∃β',St C β' env (sset s id (.tok t e 0)) a w/\AV.ok β' (C.gD β' (sset s id (.tok t e 0))) w (.own e id []) (.slice none 0 0):=by
 have hno:β id=.no:=by have:=h.inv.obs id;rw[hd]at this;exact this
 have hown:∀b o,own (gC β id (.tok (.slice none 0 0) 0)) (sset s id (.tok t e 0)) b o->own β s b o:=by
  intro b o ho;rcases tX ho with ho|ho
  ·exact ho
  ·obtain⟨i,ho⟩:=ho;by_cases hi:i=id
   ·subst hi;simp[sat,gC]at ho
   ·simp[sat,hi]at ho
 have hblk:∀i b,gw (gC β id (.tok (.slice none 0 0) 0)) (sset s id (.tok t e 0)) i b->gw β s i b:=by
  intro i b hb;rcases ja hb with⟨_,hb⟩|⟨_,hb⟩
  ·exact hb
  ·simp[gw,sat,gC]at hb
 have m:lM β s w (gC β id (.tok (.slice none 0 0) 0)) (sset s id (.tok t e 0)) w:=
  ⟨au _,rfl,fun _ _ _ hc _=>hc,fun _ _ _=>rfl,fun b o ho=>.inl (hown b o ho),fun i b hb=>.inl ⟨i,hblk i b hb⟩,fun i=>by
   by_cases hi:i=id
   ·subst hi;rw[hno];trivial
   ·simp only[gC,hi,aI];exact .refl _⟩
 refine⟨_,h.move m (fun i=>?_) (fun i j b hi hj=>h.inv.inj i j b (hblk i b hi) (hblk j b hj)),?_⟩
 ·rw[iJ];by_cases hi:i=id
  ·subst hi;simp only[aO];exact⟨.slice none 0 0,by simp[gC],.inl ⟨rfl,rfl⟩⟩
  ·simp only[hi,aI];exact(h.inv.obs i).uS m (by simp[gC,hi]) (fun _ _=>rfl) rfl
 ·simp only[AV.ok,D.ok];exact⟨⟨none,0,rfl,⟨au _,gq⟩,trivial,.inl trivial⟩,_,0,by simp[gC,Place.at],au _,fun _=>rfl⟩
section
variable{P:Program}{C:Ctx}{o:Oper}{env:List AV}{s:gA}{k:List AV->gA->Prop}
theorem oe{w:World}{size n len cap:Nat}{a:Option Addr}{vs:List Value}(hl:vs.length=n*size)
 (hc:vs=[]\/∃b o,a=some ⟨b,o,none⟩/\∀j v,vs[j]?=some v->w.cell? ⟨b,o+j,none⟩=some v):
 (Builtin.firstCells size n (.slice a len cap)).run P w=.ok vs.toArray w:=by
 rcases hc with rfl|⟨b,off,rfl,hc⟩
 ·cases a with
  |none=>simp[Builtin.firstCells]
  |some a=>simp[Builtin.firstCells,<-hl,loadCells,loadCellsFrom]
 ·have:=run_loadCells_list (P:=P) w ⟨b,off,none⟩ vs (fun j v hj=>by rw[dz];exact hc j v hj);rw[hl]at this;simpa[Builtin.firstCells]using this
theorem vD{w:World}(t u ty e e2:TypeId)(i:TypeInfo)(ht:P.underlying t=some (.slice e))(hu:P.underlying u=some (.slice e2))(hi:P.info? e=some i)
 (g sLen sCap:Nat) (cur:Array Value) (el:Nat) (hg:w.heap[g]?=some (.cells cur el (0,0)))
 (a:Option Addr) (m c:Nat) (news:List Value) (hl:news.length=m*i.size)
 (hnews:news=[]\/∃b o,a=some ⟨b,o,none⟩/\∀j v,news[j]?=some v->w.cell? ⟨b,o+j,none⟩=some v) (h1:∀u∈news,one u=true)
 (hroom:sLen+m<=sCap) (hfit:sLen*i.size+news.length<=cur.size):
 (Builtin.append_ #[t,u] ty #[.slice (some ⟨g,0,none⟩) sLen sCap,.slice a m c]).run P w=
  .ok (.slice (some ⟨g,0,none⟩) (sLen+m) sCap) (w.setRow g (cur.toList.take (sLen*i.size)++news++cur.toList.drop (sLen*i.size+news.length)).toArray):=by
 have hf:=oe (P:=P) (w:=w) (size:=i.size) (n:=m) (len:=m) (cap:=c) (a:=a) hl hnews;have hst:=eG P g (sLen*i.size) el news 0 cur w hg (by simpa using hfit) (fun v hv=>uU (h1 v hv));simp only[cZ]at hst;simp[Builtin.append_,a_ ht,a_ hu,Go.sizeOf,typeInfo,hi,Builtin.lenOf,hroom,hf,dz,hst]
theorem sE{w:World}(t u ty e e2:TypeId)(i:TypeInfo)(z:Value)(ht:P.underlying t=some (.slice e))(hu:P.underlying u=some (.slice e2))(hi:P.info? e=some i)(hz:i.zero=some z)
 (b:Option Addr) (sLen sCap:Nat) (olds:List Value) (hlo:olds.length=sLen*i.size)
 (holds:olds=[]\/∃b' o,b=some ⟨b',o,none⟩/\∀j v,olds[j]?=some v->w.cell? ⟨b',o+j,none⟩=some v)
 (a:Option Addr) (n c:Nat) (news:List Value) (hl:news.length=n*i.size)
 (hnews:news=[]\/∃b o,a=some ⟨b,o,none⟩/\∀j v,news[j]?=some v->w.cell? ⟨b,o+j,none⟩=some v)
 (hg:sCap<sLen+n) (h63:((sLen+n:Nat):Int)<=9223372036854775807) (hfit:Builtin.nextslicecap (sLen+n) sCap*i.bytes<=281474976710656):
 (Builtin.append_ #[t,u] ty #[.slice b sLen sCap,.slice a n c]).run P w=
  .ok (.slice (some ⟨w.heap.size,0,none⟩) (sLen+n) (grownCap w (sLen+n) sCap e))
   (w.drew.alloc (.cells (olds.toArray++news.toArray++Builtin.zeroCells z.cells (grownCap w (sLen+n) sCap e-(sLen+n))) e)):=by
 have hn:¬(sLen+n<=sCap):=by omega
 have h63':¬(9223372036854775807<((sLen:Int)+(n:Int))):=by omega
 have h48':¬(281474976710656<Builtin.nextslicecap (sLen+n) sCap*i.bytes):=by omega
 have hf:=oe (P:=P) (w:=w.drew) (size:=i.size) (n:=n) (len:=n) (cap:=c) (a:=a) hl (by simpa using hnews);have hfo:=oe (P:=P) (w:=w.drew) (size:=i.size) (n:=sLen) (len:=sLen) (cap:=sCap) (a:=b) hlo (by simpa using holds);simp[Builtin.append_,a_ ht,a_ hu,Go.sizeOf,typeInfo,zeroValue,hi,hz,Builtin.lenOf,hn,h63',h48',Question.forced,hf,hfo,newRow,grownCap];congr 2;apply cG;simp[aL]
theorem qq{z:Array Value}(h:∀v∈z.toList,one v=true)(n:Nat):∀v∈(Builtin.zeroCells z n).toList,one v=true:=by
 intro v hv;simp only[Builtin.zeroCells]at hv;simp at hv;obtain⟨i,hi,rfl⟩:=hv;by_cases hz:z.size=0
 ·simp[hz]at hi
 ·have hlt:i%z.size<z.size:=Nat.mod_lt _ gq;rw[ek z _ hlt];exact h _ (Array.getElem_mem_toList hlt)
theorem uE{α:Type}(xs ys:List α)(n:Nat)(h:xs.length=n):(xs++ys).take n=xs:=by subst h;simp
theorem JP{β:gI}{w:World}{y:AV}{v:Value}{e2 e:Nat}{ys:List D}(hy:AV.ok β (C.gD β s) w y v)(hs:pN y=some (e2,ys))(he:ys=[]\/e2=e):
 ∃a cap news,v=.slice a ys.length cap/\news.length=ys.length*e/\(∀u∈news,one u=true)/\
  (news=[]\/∃b o,a=some ⟨b,o,none⟩/\jI (C.gD β s) w b o news)/\
  ∀(O':Own)(w':World)(b' o':Nat),(∀b o v,w.cell? ⟨b,o,none⟩=some v->¬C.gD β s b o->w'.cell? ⟨b,o,none⟩=some v/\¬O' b o)->
   jI O' w' b' o' news->D.row O' w' b' o' e ys:=by
 obtain⟨a,cap,h1,_,_,h4⟩:=xw hy hs;rcases h4 with rfl|⟨b,off,rfl,h4⟩
 ·exact⟨a,cap,[],h1,by simp,by simp,.inl rfl,fun _ _ _ _ _ _=>by simp[D.row]⟩
 ·rcases he with rfl|rfl
  ·exact⟨_,cap,[],h1,by simp,by simp,.inl rfl,fun _ _ _ _ _ _=>by simp[D.row]⟩
  ·obtain⟨vs,k1,k2,k3⟩:=xm h4;exact⟨_,cap,vs,h1,k1,k2.one,.inr ⟨b,off,rfl,k2⟩,k3⟩
end
theorem HV{β β':gI}{O F:Own}{w w':World}(h:∀x v,AV.ok β O w x v->AV.ok β' F w' x v){ds:List D}{vs:List Value}(k:D.gO O w ds vs):D.gO F w' ds vs:=by
 rw[D.jd]at k⊢;exact⟨k.1,fun i x v hx hv=>⟨(k.2 i x v hx hv).1,by have:=h (.d x) v (by simpa[AV.ok]using(k.2 i x v hx hv).2);simpa[AV.ok]using this⟩⟩
theorem qQ{O:Own}{w:World}{xs ys:List D}{vs us:List Value}(h:D.gO O w xs vs)(k:D.gO O w ys us):D.gO O w (xs++ys) (vs++us):=by
 induction xs generalizing vs with
 |nil=>simp only[D.gO]at h;subst h;simpa using k
 |cons x xs ih=>
  simp only[D.gO]at h;obtain⟨v,r,rfl,h0,h1,h2⟩:=h;simp only[cg,D.gO];exact⟨v,r++us,rfl,h0,h1,ih h2⟩
theorem Fk{O:Own}{w:World}{b e:Nat}:∀{xs:List D}{o:Nat},D.row O w b o e xs->
 ∃vs,vs.length=xs.length*e/\jI O w b o vs/\D.gO O w (xs.flatMap gx) vs
 |[],o=>fun _=>⟨[],by simp,fun j v hj=>by simp at hj,by simp[D.gO]⟩
 |x::xs,o=>fun h=>by
  rw[D.lY]at h;obtain⟨⟨us,h1,h2,h3⟩,h4⟩:=h;obtain⟨vs,k1,k2,k3⟩:=Fk h4;refine⟨us++vs,by simp[h1,k1,bC];omega,h2.append (by rw[h1];exact k2),?_⟩;rw[bH];exact qQ (HQ h3 h2) k3
theorem Fu{β:gI}{O:Own}{w:World}{y:AV}{v:Value}{e2 e:Nat}{ys:List D}(hy:AV.ok β O w y v)(hs:pN y=some (e2,ys))(he:ys=[]\/e2=e):
 ∃a cap news,v=.slice a ys.length cap/\news.length=ys.length*e/\(∀u∈news,one u=true)/\
  (news=[]\/∃b o,a=some ⟨b,o,none⟩/\jI O w b o news)/\D.gO O w (ys.flatMap gx) news:=by
 obtain⟨a,cap,h1,_,_,h4⟩:=xw hy hs;rcases h4 with rfl|⟨b,off,rfl,h4⟩
 ·exact⟨a,cap,[],h1,by simp,by simp,.inl rfl,by simp[D.gO]⟩
 ·rcases he with rfl|rfl
  ·exact⟨_,cap,[],h1,by simp,by simp,.inl rfl,by simp[D.gO]⟩
  ·obtain⟨vs,k1,k2,k3⟩:=Fk h4;exact⟨_,cap,vs,h1,k1,k2.one,.inr ⟨b,off,rfl,k2⟩,k3⟩
theorem St.same{C:Ctx}{β:gI}{env:List AV}{s s':gA}{a:Act}{w:World}(hst:St C β env s a w)(hsame:∀q,sat s' q=sat s q):St C β env s' a w:=by
 have hown:∀b o,own β s' b o<->own β s b o:=by intro b o;unfold own;simp only[hsame]
 have hblk:∀q b,gw β s' q b<->gw β s q b:=by intro q b;unfold gw;simp only[hsame]
 have m:lM β s w β s' w:=
  ⟨au _,rfl,fun _ _ _ h _=>h,fun _ _ _=>rfl,fun b o h=>.inl ((hown b o).1 h),fun q b h=>.inl ⟨q,(hblk q b).1 h⟩,fun _=>.refl _⟩
 exact hst.move m (fun q=>by rw[hsame];exact(hst.inv.obs q).uS m rfl (fun _ _=>rfl) rfl) (fun p q b hp hq=>hst.inv.inj p q b ((hblk p b).1 hp) ((hblk q b).1 hq))
theorem BH{C:Ctx}{β:gI}{env:List AV}{s:gA}{a:Act}{w:World}(h:St C β env s a w){id t e n cap:Nat}{c:Array Value}{cs:List D}{pre rest:List Value}
 (hpl:lF (β id) (.tok (.slice (some ⟨w.heap.size,0,none⟩) n cap) n))
 (hsz:c.size=cap*e) (hn:n<=cap) (hcap:cap<2^63) (h1:∀v∈c.toList,one v=true) (hl:cs.length=n*e)
 (hc:c.toList=pre++rest) (hcs:D.gO (C.gD β s) w cs pre):
 ∃β',St C β' env (sset s id (.ij t e n cs)) a (w.alloc (.cells c t))/\
  AV.ok β' (C.gD β' (sset s id (.ij t e n cs))) (w.alloc (.cells c t)) (.jM e id n) (.slice (some ⟨w.heap.size,0,none⟩) n cap):=by
 obtain⟨h2,m⟩:=h.fresh (id:=id) (ob:=.ij t e n cs) (p:=.tok (.slice (some ⟨w.heap.size,0,none⟩) n cap) n) (c:=c) (t:=t) hpl
  (fun b o ho=>by
   obtain⟨i,ho⟩:=ho;by_cases hi:i=id
   ·subst hi;simp only[sat,aO,gC]at ho;obtain⟨cap',ho⟩:=ho;simp at ho;exact ho.1.symm
   ·simp[sat,hi]at ho)
  (fun b hb=>by
   simp only[gw,sat,aO,gC]at hb;obtain⟨cap',hb⟩:=hb;simp at hb;exact hb.1.symm)
  (fun β' F hx _ hp=>⟨_,hp,hl,.inr ⟨w.heap.size,cap,c,rfl,dr,hsz,hn,hcap,h1,pre,rest,hc,HV hx hcs⟩⟩)
 refine⟨_,h2,?_⟩;simp only[AV.ok];exact⟨_,n,by simp[gC,Place.at],au _,fun _=>rfl,.inr ⟨_,cap,rfl,hn,hcap⟩⟩
theorem EX{C:Ctx}{β:gI}{env:List AV}{s:gA}{a:Act}{w:World}(h:St C β env s a w){id g t e n n' cap:Nat}{cs cs':List D}{vs vs':Array Value}{pre rest:List Value}
 (hs:sat s id=.ij t e n cs) (hb:β id=.tok (.slice (some ⟨g,0,none⟩) n cap) n) (hh:w.heap[g]?=some (.cells vs t (0,0)))
 (hnn:n<=n') (hsz:vs'.size=cap*e) (hn:n'<=cap) (hcap:cap<2^63) (h1:∀v∈vs'.toList,one v=true) (hl:cs'.length=n'*e)
 (hc:vs'.toList=pre++rest) (hcs:D.gO (C.gD β s) w cs' pre):
 ∃β',St C β' env (sset s id (.ij t e n' cs')) a (w.setRow g vs')/\
  AV.ok β' (C.gD β' (sset s id (.ij t e n' cs'))) (w.setRow g vs') (.jM e id n') (.slice (some ⟨g,0,none⟩) n' cap):=by
 have hbl:gw β s id g:=by unfold gw;rw[hs];exact⟨cap,hb⟩
 obtain⟨hst',m⟩:=h.Sz (id:=id) (b:=g) (ob:=.ij t e n' cs') (p:=.tok (.slice (some ⟨g,0,none⟩) n' cap) n') (w':=w.setRow g vs') hbl (by simp) (by simp[Ec])
  (fun b' hb'=>fJ w g b' vs' (fun e=>hb' e))
  (fun o v _ hn=>absurd ⟨id,by rw[hs];exact⟨cap,hb⟩⟩ hn)
  (fun b' o ho=>by
   obtain⟨i,ho⟩:=ho;by_cases hi:i=id
   ·subst hi;simp only[sat,aO,gC]at ho;obtain⟨cap',ho⟩:=ho;simp at ho;obtain⟨rfl,_⟩:=ho;exact⟨i,by rw[hs];exact⟨cap,hb⟩⟩
   ·simp[sat,hi]at ho)
  (fun b' hb'=>by
   simp only[gw,sat,aO,gC]at hb';obtain⟨_,hb'⟩:=hb';simp at hb';exact hb'.1.symm)
  (by rw[hb];exact⟨_,_,rfl,hnn,fun e=>by subst e;rfl⟩)
  (fun β' F hx _ hp=>⟨_,hp,hl,.inr ⟨g,cap,vs',rfl,eF w g vs vs' t (0,0) hh,hsz,hn,hcap,h1,pre,rest,hc,HV hx hcs⟩⟩)
 refine⟨_,hst',?_⟩;simp only[AV.ok];exact⟨_,n',by simp[gC,Place.at],au _,fun _=>rfl,.inr ⟨_,cap,rfl,hn,hcap⟩⟩
theorem GF{C:Ctx}{β:gI}{env:List AV}{s:gA}{a:Act}{w:World}(h:St C β env s a w){id:Nat}(t e:Nat)(hd:sat s id=.dead):
 ∃β',St C β' env (sset s id (.ij t e 0 [])) a w/\AV.ok β' (C.gD β' (sset s id (.ij t e 0 []))) w (.jM e id 0) (.slice none 0 0):=by
 have hno:β id=.no:=by have:=h.inv.obs id;rw[hd]at this;exact this
 have hown:∀b o,own (gC β id (.tok (.slice none 0 0) 0)) (sset s id (.ij t e 0 [])) b o->own β s b o:=by
  intro b o ho;rcases tX ho with ho|ho
  ·exact ho
  ·obtain⟨i,ho⟩:=ho;by_cases hi:i=id
   ·subst hi;simp[sat,gC]at ho
   ·simp[sat,hi]at ho
 have hblk:∀i b,gw (gC β id (.tok (.slice none 0 0) 0)) (sset s id (.ij t e 0 [])) i b->gw β s i b:=by
  intro i b hb;rcases ja hb with⟨_,hb⟩|⟨_,hb⟩
  ·exact hb
  ·simp[gw,sat,gC]at hb
 have m:lM β s w (gC β id (.tok (.slice none 0 0) 0)) (sset s id (.ij t e 0 [])) w:=
  ⟨au _,rfl,fun _ _ _ hc _=>hc,fun _ _ _=>rfl,fun b o ho=>.inl (hown b o ho),fun i b hb=>.inl ⟨i,hblk i b hb⟩,fun i=>by
   by_cases hi:i=id
   ·subst hi;rw[hno];trivial
   ·simp only[gC,hi,aI];exact .refl _⟩
 refine⟨_,h.move m (fun i=>?_) (fun i j b hi hj=>h.inv.inj i j b (hblk i b hi) (hblk j b hj)),?_⟩
 ·rw[iJ];by_cases hi:i=id
  ·subst hi;simp only[aO];exact⟨.slice none 0 0,by simp[gC],by simp,.inl ⟨rfl,rfl⟩⟩
  ·simp only[hi,aI];exact(h.inv.obs i).uS m (by simp[gC,hi]) (fun _ _=>rfl) rfl
 ·simp only[AV.ok];exact⟨_,0,by simp[gC,Place.at],au _,fun _=>rfl,.inl ⟨none,rfl,trivial⟩⟩
theorem Lo{C:Ctx}{β:gI}{env:List AV}{s:gA}{a:Act}{w:World}(h:St C β env s a w){id t e e' n:Nat}{cs:List D}{v:Value}
 (hs:sat s id=.ij t e n cs) (hv:AV.ok β (C.gD β s) w (.jM e' id n) v):
 β id=.tok v n/\cs.length=n*e/\Pr (C.gD β s) w t e n v cs:=by
 have ho:=h.inv.obs id;rw[hs]at ho;obtain⟨u,h1,h2,h3⟩:=ho;simp only[AV.ok]at hv;obtain⟨u',m,k1,k2,k3,k4⟩:=hv;rw[h1]at k1;obtain⟨rfl,rfl⟩:=k1;have:=k3 rfl;subst this;exact⟨h1,h2,h3⟩
section
variable{P:Program}{C:Ctx}{o:Oper}{env:List AV}{s:gA}{k:List AV->gA->Prop}
theorem Ao{w:World}(t u ty e e2:TypeId)(i:TypeInfo)(ht:P.underlying t=some (.slice e))(hu:P.underlying u=some (.slice e2))(hi:P.info? e=some i)
 (ad:Option Addr) (c:Nat):(Builtin.append_ #[t,u] ty #[.slice none 0 0,.slice ad 0 c]).run P w=.ok (.slice none 0 0) w:=by
 have hf:=oe (P:=P) (w:=w) (size:=i.size) (n:=0) (len:=0) (cap:=c) (a:=ad) (vs:=[]) (by simp) (.inl rfl);simp[Builtin.append_,a_ ht,a_ hu,Go.sizeOf,typeInfo,hi,Builtin.lenOf,hf]
theorem BG{β:gI}{a:Act}{w:World}(hst:St C β env s a w){t u ty e e2 sz by':Nat}{i:TypeInfo}{z:Value}
 (ht:P.underlying t=some (.slice e)) (hu:P.underlying u=some (.slice e2)) (hi:P.info? e=some i) (hz:i.zero=some z) (hsz:i.size=sz) (hb:i.bytes=by') (hb0:0<by')
 (hz1:z.cells.size=i.size) (hz2:∀v∈z.cells.toList,one v=true)
 {base:Option Addr} {sLen sCap:Nat} {cs:List D} {olds:List Value} (hlo:olds.length=sLen*sz) (hlo1:∀v∈olds,one v=true)
 (holds:olds=[]\/∃b' o,base=some ⟨b',o,none⟩/\∀j v,olds[j]?=some v->w.cell? ⟨b',o+j,none⟩=some v)
 (hcs:D.gO (C.gD β s) w cs olds)
 {ad:Option Addr} {c m:Nat} {ys:List D} {news:List Value} (hln:news.length=m*sz) (hln1:∀v∈news,one v=true)
 (hnews:news=[]\/∃b o,ad=some ⟨b,o,none⟩/\jI (C.gD β s) w b o news)
 (hys:D.gO (C.gD β s) w ys news)
 (hg:sCap<sLen+m) (hbd:(sLen+m)*by'<=2^47) {id:Nat} (hpl:lF (β id) (.tok (.slice (some ⟨w.heap.size,0,none⟩) (sLen+m) (grownCap w (sLen+m) sCap e)) (sLen+m))):
 ∃v w' β',(Builtin.append_ #[t,u] ty #[.slice base sLen sCap,.slice ad m c]).run P w=.ok v w'/\
  St C β' env (sset s id (.ij e sz (sLen+m) (cs++ys))) a w'/\AV.ok β' (C.gD β' (sset s id (.ij e sz (sLen+m) (cs++ys)))) w' (.jM sz id (sLen+m)) v:=by
 have hneed:sLen+m<=2^47:=bN (cC _ hb0) hbd;have hrun:=sE (P:=P) (w:=w) t u ty e e2 i z ht hu hi hz base sLen sCap olds (by rw[hsz];exact hlo) holds ad m c news (by rw[hsz];exact hln)
  (hnews.imp (fun x=>x) fun⟨b',o',h1,h2⟩=>⟨b',o',h1,fun j v hj=>(h2 j v hj).1⟩) hg gq (by rw[hb];exact growslice_fits hg (by simpa using hbd))
 have hcap1:=grownCap_ge w (sLen+m) sCap e;have hcap2:=eA w (sLen+m) sCap e (by unfold Go.maxLen;omega);have hcell:(olds.toArray++news.toArray++Builtin.zeroCells z.cells (grownCap w (sLen+m) sCap e-(sLen+m))).toList=olds++news++(Builtin.zeroCells z.cells (grownCap w (sLen+m) sCap e-(sLen+m))).toList:=by simp
 have hst':St C β env s a w.drew:=hst.drew;have hoks:=qQ hcs hys;have hlen:=D.gY hoks;have hoks':D.gO (C.gD β s) w.drew (cs++ys) (olds++news):=D.jb (O:=C.gD β s) (w:=w) (w':=w.drew) (fun _ _ _ hc hn=>⟨hc,hn⟩) _ _ hoks;obtain⟨β',h1,h2⟩:=BH hst' (id:=id) (t:=e) (e:=sz) (n:=sLen+m) (cap:=grownCap w (sLen+m) sCap e) (cs:=cs++ys)
  (c:=olds.toArray++news.toArray++Builtin.zeroCells z.cells (grownCap w (sLen+m) sCap e-(sLen+m))) (pre:=olds++news) hpl
  (by
   rw[dD,dD,ff,hz1,hsz];simp only[dc,hlo,hln];rw[<-bC,<-bC];congr 1;omega)
  hcap1 (by unfold Go.maxLen at hcap2;omega)
  (fun v hv=>by
   rw[hcell]at hv;simp only[aM]at hv;rcases hv with(hv|hv)|hv
   ·exact hlo1 v hv
   ·exact hln1 v hv
   ·exact qq hz2 _ v hv)
  (by rw[<-hlen,aj,hlo,hln,bC]) hcell
  hoks'
 exact⟨_,_,β',hrun,h1,h2⟩
theorem Nv{β:gI}{a:Act}{w:World}(hst:St C β env s a w){t u ty e e2 sz by':Nat}{i:TypeInfo}{z:Value}
 (ht:P.underlying t=some (.slice e)) (hu:P.underlying u=some (.slice e2)) (hi:P.info? e=some i) (hz:i.zero=some z) (hsz:i.size=sz) (hb:i.bytes=by') (hb0:0<by')
 (hz1:z.cells.size=i.size) (hz2:∀v∈z.cells.toList,one v=true)
 {j n:Nat} {cs:List D} (hsj:sat s j=.ij e sz n cs) {v:Value} (hx:AV.ok β (C.gD β s) w (.jM sz j n) v)
 {ad:Option Addr} {c m:Nat} {ys:List D} {news:List Value} (hln:news.length=m*sz) (hln1:∀v∈news,one v=true)
 (hnews:news=[]\/∃b o,ad=some ⟨b,o,none⟩/\jI (C.gD β s) w b o news)
 (hys:D.gO (C.gD β s) w ys news) (hbd:(n+m)*by'<=2^47):
 ∃v' w' β',(Builtin.append_ #[t,u] ty #[v,.slice ad m c]).run P w=.ok v' w'/\
  St C β' env (sset s j (.ij e sz (n+m) (cs++ys))) a w'/\AV.ok β' (C.gD β' (sset s j (.ij e sz (n+m) (cs++ys)))) w' (.jM sz j (n+m)) v':=by
 obtain⟨hbj,hcl,hg⟩:=Lo hst hsj hx;rcases hg with⟨rfl,rfl⟩|⟨g,cap,vs,rfl,hh,h3,h4,h5,h6,pre,rest,h7,h8⟩
 ·have hc0:cs=[]:=bU.1 (by simpa using hcl);subst hc0;by_cases hm:m=0
  ·subst hm;have hn0:news=[]:=bU.1 (by simpa using hln);subst hn0;simp only[D.jd]at hys;have hy0:ys=[]:=bU.1 (by simpa using hys.1.symm);subst hy0;have hsame:∀q,sat (sset s j (.ij e sz (0+0) (([]:List D)++[]))) q=sat s q:=by
    intro q;rw[iJ];split
    ·rename_i hq;subst hq;rw[hsj];simp
    ·rfl
   refine⟨_,w,β,Ao (P:=P) (w:=w) t u ty e e2 i ht hu hi ad c,hst.same hsame,?_⟩;simp only[AV.ok]at hx⊢;exact hx
  ·obtain⟨v',w',β',h1,h2,h3⟩:=BG (P:=P) hst (ty:=ty) ht hu hi hz hsz hb hb0 hz1 hz2 (base:=none) (sLen:=0) (sCap:=0) (cs:=[]) (olds:=[]) (by simp) (by simp) (.inl rfl) (by simp[D.gO])
    hln hln1 hnews hys (c:=c) gq hbd (id:=j) (by rw[hbj];exact⟨_,_,rfl,gq,fun h=>by omega⟩)
   exact⟨v',w',β',h1,h2,h3⟩
 ·have hpl:=D.gY h8;by_cases hroom:n+m<=cap
  ·have hfit:n*sz+news.length<=vs.size:=by
    rw[h3,hln,<-bC];exact cn _ hroom
   have hrun:=vD (P:=P) (w:=w) t u ty e e2 i ht hu hi g n cap vs e hh ad m c news (by rw[hsz];exact hln)
    (hnews.imp (fun x=>x) fun⟨b',o',q1,q2⟩=>⟨b',o',q1,fun j v hj=>(q2 j v hj).1⟩) hln1 hroom (by rw[hsz];exact hfit)
   rw[hsz]at hrun;have htk:vs.toList.take (n*sz)=pre:=by rw[h7];exact uE _ _ _ (by rw[hpl,hcl])
   have hoks:=qQ h8 hys;have hlen:=D.gY hoks;obtain⟨β',h9,h10⟩:=EX hst (n':=n+m) (cs':=cs++ys) (vs':=(vs.toList.take (n*sz)++news++vs.toList.drop (n*sz+news.length)).toArray) (pre:=pre++news) (rest:=vs.toList.drop (n*sz+news.length))
    hsj hbj hh gq
    (by simp only[dc,aj,aW,bK,Array.length_toList];omega)
    hroom h5
    (fun v hv=>by
     simp only[aM]at hv;rcases hv with(hv|hv)|hv
     ·exact h6 v (bE hv)
     ·exact hln1 v hv
     ·exact h6 v (cA hv))
    (by rw[aj,hcl,<-D.gY hys,hln,bC])
    (by simp only[htk]) hoks
   exact⟨_,_,β',hrun,h9,h10⟩
  ·have hone:∀v∈pre,one v=true:=fun v hv=>h6 v (by rw[h7];exact bF _ hv)
   obtain⟨v',w',β',q1,q2,q3⟩:=BG (P:=P) hst (ty:=ty) ht hu hi hz hsz hb hb0 hz1 hz2 (base:=some ⟨g,0,none⟩) (sLen:=n) (sCap:=cap) (cs:=cs) (olds:=pre) (by rw[hpl,hcl]) hone
    (.inr ⟨g,0,rfl,fun q v hq=>by
     simp only[World.cell?,hh,cw,av,aI,aX];have hlt:q<pre.length:=(aP.1 hq).1;have:vs.toList[q]?=some v:=by rw[h7,aT hlt];exact hq
     simpa using this⟩) h8
    hln hln1 hnews hys (c:=c) gq hbd (id:=j) (by rw[hbj];exact⟨_,_,rfl,gq,fun h=>by omega⟩)
   exact⟨v',w',β',q1,q2,q3⟩
end
section
variable{P:Program}{C:Ctx}{o:Oper}{env:List AV}{s:gA}{k:List AV->gA->Prop}
theorem Be{β:gI}{a:Act}{w:World}(hst:St C β env s a w){t u ty e e2 sz by':Nat}{i:TypeInfo}{z:Value}
 (ht:P.underlying t=some (.slice e)) (hu:P.underlying u=some (.slice e2)) (hi:P.info? e=some i) (hz:i.zero=some z) (hsz:i.size=sz) (hb:i.bytes=by') (hb0:0<by')
 (hz1:z.cells.size=i.size) (hz2:∀v∈z.cells.toList,one v=true)
 {base:Option Addr} {sLen sCap:Nat} {xs:List D} (hxl:xs.length=sLen) {olds:List Value} (hlo:olds.length=sLen*sz) (hlo1:∀v∈olds,one v=true)
 (holds:olds=[]\/∃b' o,base=some ⟨b',o,none⟩/\jI (C.gD β s) w b' o olds)
 (hrowX:∀(O':Own)(w':World)(b' o':Nat),(∀b o v,w.cell? ⟨b,o,none⟩=some v->¬C.gD β s b o->w'.cell? ⟨b,o,none⟩=some v/\¬O' b o)->
  jI O' w' b' o' olds->D.row O' w' b' o' sz xs)
 {ad:Option Addr} {c:Nat} {ys:List D} {news:List Value} (hln:news.length=ys.length*sz) (hln1:∀v∈news,one v=true)
 (hnews:news=[]\/∃b o,ad=some ⟨b,o,none⟩/\jI (C.gD β s) w b o news)
 (hrowY:∀(O':Own)(w':World)(b' o':Nat),(∀b o v,w.cell? ⟨b,o,none⟩=some v->¬C.gD β s b o->w'.cell? ⟨b,o,none⟩=some v/\¬O' b o)->
  jI O' w' b' o' news->D.row O' w' b' o' sz ys)
 (hg:sCap<sLen+ys.length) (hbd:(sLen+ys.length)*by'<=2^47) {id:Nat} (hpl:lF (β id) (.tok (.slice (some ⟨w.heap.size,0,none⟩) (sLen+ys.length) (grownCap w (sLen+ys.length) sCap e)) (sLen+ys.length))):
 ∃v w' β',(Builtin.append_ #[t,u] ty #[.slice base sLen sCap,.slice ad ys.length c]).run P w=.ok v w'/\
  St C β' env (sset s id (.tok e sz (sLen+ys.length))) a w'/\AV.ok β' (C.gD β' (sset s id (.tok e sz (sLen+ys.length)))) w' (.own sz id (xs++ys)) v:=by
 have hneed:sLen+ys.length<=2^47:=bN (cC _ hb0) hbd;have hrun:=sE (P:=P) (w:=w) t u ty e e2 i z ht hu hi hz base sLen sCap olds (by rw[hsz];exact hlo)
  (holds.imp (fun x=>x) fun⟨b',o',h1,h2⟩=>⟨b',o',h1,fun j v hj=>(h2 j v hj).1⟩) ad ys.length c news (by rw[hsz];exact hln)
  (hnews.imp (fun x=>x) fun⟨b',o',h1,h2⟩=>⟨b',o',h1,fun j v hj=>(h2 j v hj).1⟩) hg gq (by rw[hb];exact growslice_fits hg (by simpa using hbd))
 have hcap1:=grownCap_ge w (sLen+ys.length) sCap e;have hcap2:=eA w (sLen+ys.length) sCap e (by unfold Go.maxLen;omega);have hcell:(olds.toArray++news.toArray++Builtin.zeroCells z.cells (grownCap w (sLen+ys.length) sCap e-(sLen+ys.length))).toList=olds++news++(Builtin.zeroCells z.cells (grownCap w (sLen+ys.length) sCap e-(sLen+ys.length))).toList:=by simp
 have hlen:(olds++news).length=(sLen+ys.length)*sz:=by rw[aj,hlo,hln,bC]
 have hst':St C β env s a w.drew:=hst.drew;obtain⟨β',h1,h2⟩:=vX hst' (id:=id) (t:=e) (e:=sz) (n:=sLen+ys.length) (cap:=grownCap w (sLen+ys.length) sCap e)
  (c:=olds.toArray++news.toArray++Builtin.zeroCells z.cells (grownCap w (sLen+ys.length) sCap e-(sLen+ys.length))) (xs:=xs++ys) hpl
  (by
   rw[dD,dD,ff,hz1,hsz];simp only[dc,hlo,hln];rw[<-bC,<-bC];congr 1;omega)
  hcap1 (by unfold Go.maxLen at hcap2;omega)
  (fun v hv=>by
   rw[hcell]at hv;simp only[aM]at hv;rcases hv with(hv|hv)|hv
   ·exact hlo1 v hv
   ·exact hln1 v hv
   ·exact qq hz2 _ v hv)
  (by simp[hxl])
  (fun O' w' hm hc=>by
   rw[hcell,uE _ _ _ hlen]at hc;refine vZ (hrowX O' w' _ 0 hm fun j v hj=>?_) (hrowY O' w' _ _ hm fun j v hj=>?_)
   ·have hlt:j<olds.length:=(aP.1 hj).1;exact hc j v (by rw[aT hlt];exact hj)
   ·have:=hc (olds.length+j) v (by rw[bI gq];simpa using hj);rw[hlo]at this;rw[hxl];simpa[cQ]using this)
 exact⟨_,_,β',hrun,h1,h2⟩
theorem AA{C:Ctx}{β:gI}{env:List AV}{s:gA}{a:Act}{w:World}(h:St C β env s a w){t e n cap:Nat}{c:Array Value}{xs:List D}
 (hn:n<=cap) (hcap:cap<2^63) (h1:∀v∈c.toList,one v=true) (hx:xs.length=n)
 (hrow:∀(O':Own)(w':World),(∀b o v,w.cell? ⟨b,o,none⟩=some v->¬C.gD β s b o->w'.cell? ⟨b,o,none⟩=some v/\¬O' b o)->
  jI O' w' w.heap.size 0 (c.toList.take (n*e))->D.row O' w' w.heap.size 0 e xs):
 St C β env s a (w.alloc (.cells c t))/\D.ok (C.gD β s) (w.alloc (.cells c t)) (.sl e none xs) (.slice (some ⟨w.heap.size,0,none⟩) n cap):=by
 have hold:∀b,b<w.heap.size->(w.alloc (.cells c t)).heap[b]?=w.heap[b]?:=fun b hb=>Go.RowKit.Below.heap_alloc w _ b hb
 have hnew:(w.alloc (.cells c t)).heap[w.heap.size]?=some (.cells c t (0,0)):=World.alloc_heap_new w _;have hnf:∀o,¬C.gD β s w.heap.size o:=fun o hf=>by
  rcases hf with hf|hf
  ·have:=(h.inv.low _ _ hf).1;have:=h.inv.size;omega
  ·have:=h.inv.G3 hf;omega
 refine⟨h.grow (by simp) rfl hold,?_⟩;simp only[D.ok];refine⟨some ⟨w.heap.size,0,none⟩,cap,by rw[hx],by rw[hx];exact⟨hn,hcap⟩,trivial,.inr ⟨w.heap.size,0,rfl,hrow _ _ (fun b o v hc hn=>⟨?_,hn⟩) fun j v hj=>?_⟩⟩
 ·rw[<-hc];exact dh (hold b (rL hc))
 ·have hj':c.toList[j]?=some v:=by
   have hlt:=(aP.1 hj).1;rw[bS]at hj;split at hj
   ·exact hj
   ·cases hj
  refine⟨?_,hnf _,h1 v (bR hj')⟩;simp only[World.cell?,hnew,cw,av,aI,aX];simpa using hj'
theorem KC{β:gI}{a:Act}{w:World}(hst:St C β env s a w){t u ty e e2 sz by':Nat}{i:TypeInfo}{z:Value}
 (ht:P.underlying t=some (.slice e)) (hu:P.underlying u=some (.slice e2)) (hi:P.info? e=some i) (hz:i.zero=some z) (hsz:i.size=sz) (hb:i.bytes=by') (hb0:0<by')
 (hz2:∀v∈z.cells.toList,one v=true)
 {base:Option Addr} {sLen sCap:Nat} {xs:List D} (hxl:xs.length=sLen) {olds:List Value} (hlo:olds.length=sLen*sz) (hlo1:∀v∈olds,one v=true)
 (holds:olds=[]\/∃b' o,base=some ⟨b',o,none⟩/\jI (C.gD β s) w b' o olds)
 (hrowX:∀(O':Own)(w':World)(b' o':Nat),(∀b o v,w.cell? ⟨b,o,none⟩=some v->¬C.gD β s b o->w'.cell? ⟨b,o,none⟩=some v/\¬O' b o)->
  jI O' w' b' o' olds->D.row O' w' b' o' sz xs)
 {ad:Option Addr} {c:Nat} {ys:List D} {news:List Value} (hln:news.length=ys.length*sz) (hln1:∀v∈news,one v=true)
 (hnews:news=[]\/∃b o,ad=some ⟨b,o,none⟩/\jI (C.gD β s) w b o news)
 (hrowY:∀(O':Own)(w':World)(b' o':Nat),(∀b o v,w.cell? ⟨b,o,none⟩=some v->¬C.gD β s b o->w'.cell? ⟨b,o,none⟩=some v/\¬O' b o)->
  jI O' w' b' o' news->D.row O' w' b' o' sz ys)
 (hg:sCap<sLen+ys.length) (hbd:(sLen+ys.length)*by'<=2^47):
 ∃v w',(Builtin.append_ #[t,u] ty #[.slice base sLen sCap,.slice ad ys.length c]).run P w=.ok v w'/\St C β env s a w'/\D.ok (C.gD β s) w' (.sl sz none (xs++ys)) v:=by
 have hneed:sLen+ys.length<=2^47:=bN (cC _ hb0) hbd;have hrun:=sE (P:=P) (w:=w) t u ty e e2 i z ht hu hi hz base sLen sCap olds (by rw[hsz];exact hlo)
  (holds.imp (fun x=>x) fun⟨b',o',h1,h2⟩=>⟨b',o',h1,fun j v hj=>(h2 j v hj).1⟩) ad ys.length c news (by rw[hsz];exact hln)
  (hnews.imp (fun x=>x) fun⟨b',o',h1,h2⟩=>⟨b',o',h1,fun j v hj=>(h2 j v hj).1⟩) hg gq (by rw[hb];exact growslice_fits hg (by simpa using hbd))
 have hcap1:=grownCap_ge w (sLen+ys.length) sCap e;have hcap2:=eA w (sLen+ys.length) sCap e (by unfold Go.maxLen;omega);have hcell:(olds.toArray++news.toArray++Builtin.zeroCells z.cells (grownCap w (sLen+ys.length) sCap e-(sLen+ys.length))).toList=olds++news++(Builtin.zeroCells z.cells (grownCap w (sLen+ys.length) sCap e-(sLen+ys.length))).toList:=by simp
 have hlen:(olds++news).length=(sLen+ys.length)*sz:=by rw[aj,hlo,hln,bC]
 have hst':St C β env s a w.drew:=hst.drew;obtain⟨h1,h2⟩:=AA hst' (t:=e) (e:=sz) (n:=sLen+ys.length) (cap:=grownCap w (sLen+ys.length) sCap e)
  (c:=olds.toArray++news.toArray++Builtin.zeroCells z.cells (grownCap w (sLen+ys.length) sCap e-(sLen+ys.length))) (xs:=xs++ys)
  hcap1 (by unfold Go.maxLen at hcap2;omega)
  (fun v hv=>by
   rw[hcell]at hv;simp only[aM]at hv;rcases hv with(hv|hv)|hv
   ·exact hlo1 v hv
   ·exact hln1 v hv
   ·exact qq hz2 _ v hv)
  (by simp[hxl])
  (fun O' w' hm hc=>by
   rw[hcell,uE _ _ _ hlen]at hc;refine vZ (hrowX O' w' _ 0 hm fun j v hj=>?_) (hrowY O' w' _ _ hm fun j v hj=>?_)
   ·have hlt:j<olds.length:=(aP.1 hj).1;exact hc j v (by rw[aT hlt];exact hj)
   ·have:=hc (olds.length+j) v (by rw[bI gq];simpa using hj);rw[hlo]at this;rw[hxl];simpa[cQ]using this)
 exact⟨_,_,hrun,h1,h2⟩
theorem AQ{w:World}(t u ty e e2:TypeId)(i:TypeInfo)(ht:P.underlying t=some (.slice e))(hu:P.underlying u=some (.slice e2))(hi:P.info? e=some i)
 (base ad:Option Addr) (n c:Nat):(Builtin.append_ #[t,u] ty #[.slice base n n,.slice ad 0 c]).run P w=.ok (.slice base n n) w:=by
 have hf:=oe (P:=P) (w:=w) (size:=i.size) (n:=0) (len:=0) (cap:=c) (a:=ad) (vs:=[]) (by simp) (.inl rfl);cases base<;>simp[Builtin.append_,a_ ht,a_ hu,Go.sizeOf,typeInfo,hi,Builtin.lenOf,hf,storeCells]
theorem tK{w:World}(t u ty e e2:TypeId)(i:TypeInfo)(ht:P.underlying t=some (.slice e))(hu:P.underlying u=some (.slice e2))(hi:P.info? e=some i)
 (ad:Option Addr) (c:Nat):(Builtin.append_ #[t,u] ty #[.slice none 0 0,.slice ad 0 c]).run P w=.ok (.slice none 0 0) w:=by
 have hf:=oe (P:=P) (w:=w) (size:=i.size) (n:=0) (len:=0) (cap:=c) (a:=ad) (vs:=[]) (by simp) (.inl rfl);simp[Builtin.append_,a_ ht,a_ hu,Go.sizeOf,typeInfo,hi,Builtin.lenOf,hf]
theorem QM{c:Call}{d:Nat}(hop:o.op=.call c)(hc:c.callee=.builtin .append){x y:Operand}(ha:c.args=#[x,y]){t u:Nat}
 (hat:c.argTypes[0]?=some t) (hau:c.argTypes[1]?=some u) {e e2:Nat} (ht:P.underlying t=some (.slice e)) (hu:P.underlying u=some (.slice e2))
 {sz by':Nat} (hsz:jE P e=some sz) (hby:vL P e=some by') {z:List D} (hz:rf P e=some z) (hsz0:0<sz) (hb0:0<by')
 (hk:IL d e sz by' C.k (ev env x) (ev env y) env s fun x env s=>k (gU o.dst env x) s):mF P C o env s k:=by
 refine .value fun β a w hst=>?_
 obtain⟨i,zv,hi,hzv,hz1,hz2,_⟩:=mS hz;have hisz:i.size=sz:=by obtain⟨i',h1,h2⟩:=jN hsz;rw[hi]at h1;cases h1;exact h2
 have hib:i.bytes=by':=by obtain⟨i',h1,h2⟩:=sN hby;rw[hi]at h1;cases h1;exact h2
 have hexec:∀v w',(Builtin.append_ #[t,u] o.type #[a.eval x,a.eval y]).run P w=.ok v w'->(execOp a.eval o).run P w=.ok (.value v) w':=by
  intro v w' hr;have hargs:c.argTypes[0]?=some t/\c.argTypes[1]?=some u:=⟨hat,hau⟩;have:∀w,(Builtin.append_ c.argTypes o.type #[a.eval x,a.eval y]).run P w=(Builtin.append_ #[t,u] o.type #[a.eval x,a.eval y]).run P w:=by
   intro w;unfold Builtin.append_;simp[hat,hau]
  simp[execOp,hop,resolve,hc,ha,invoke,builtin,this,hr]
 unfold IL at hk;split at hk
 ·exact hk.elim
 ·rename_i e3 ys hys;obtain⟨he3,hk⟩:=hk;obtain⟨ad,cap,news,hyv,hln,hln1,hnews,hrowY⟩:=JP (e:=sz) (hst.ev y) hys he3;have hx:=hst.ev x;split at hk
  ·rename_i e' j xs hxe;obtain⟨rfl,hsj,hbd,hk⟩:=hk;rw[hxe]at hx;simp only[AV.ok]at hx;obtain⟨hxd,uv,n,hbj,hle,heq⟩:=hx;have ho:=hst.inv.obs j;rw[hsj]at ho;obtain⟨u2,hb2,htok⟩:=ho;rw[hb2]at hbj;obtain⟨rfl,rfl⟩:=hbj;have hbj:=hb2;have hxv:a.eval x=u2:=heq rfl;obtain⟨ax,capx,hxa,hcx,_,hrx⟩:=hxd;rw[hxv]at hxa;rcases htok with⟨h1,h2⟩|⟨g,capg,vs,h1,h2,h3,h4,h5,h6⟩
   ·-- nil
    have hxs:xs=[]:=bU.1 h2;subst hxs;by_cases hy0:ys=[]
    ·subst hy0;have hrun:=tK (P:=P) (w:=w) t u o.type e e2 i ht hu hi ad cap;have hs':sset s j (.tok e e' ([]:List D).length)=sset s j (.tok e e' (([]:List D).length+([]:List D).length)):=by simp
     refine⟨_,w,β,env,sset s j (.tok e e' (([]:List D).length+([]:List D).length)),_,hexec _ _ (by rw[hxv,h1,hyv];exact hrun),?_,?_,hk⟩
     ·have hsame:∀q,sat (sset s j (.tok e e' (([]:List D).length+([]:List D).length))) q=sat s q:=by
       intro q;rw[iJ];split
       ·rename_i hq;subst hq;rw[hsj];simp
       ·rfl
      have hown:∀b o,own β (sset s j (.tok e e' (([]:List D).length+([]:List D).length))) b o<->own β s b o:=by intro b o;unfold own;simp only[hsame]
      have hblk:∀q b,gw β (sset s j (.tok e e' (([]:List D).length+([]:List D).length))) q b<->gw β s q b:=by intro q b;unfold gw;simp only[hsame]
      have m:lM β s w β (sset s j (.tok e e' (([]:List D).length+([]:List D).length))) w:=
       ⟨au _,rfl,fun _ _ _ h _=>h,fun _ _ _=>rfl,fun b o h=>.inl ((hown b o).1 h),fun q b h=>.inl ⟨q,(hblk q b).1 h⟩,fun _=>.refl _⟩
      exact hst.move m (fun q=>by rw[hsame];exact(hst.inv.obs q).uS m rfl (fun _ _=>rfl) rfl) (fun p q b hp hq=>hst.inv.inj p q b ((hblk p b).1 hp) ((hblk q b).1 hq))
     ·simp only[AV.ok,D.ok];exact⟨⟨none,0,rfl,⟨au _,gq⟩,trivial,.inl rfl⟩,_,_,by rw[hbj];exact⟨rfl,rfl⟩,au _,fun _=>h1.symm⟩
    ·have hpos:0<ys.length:=bQ.2 hy0;obtain⟨v,w',β',hrun,hst',hok⟩:=Be (P:=P) hst (ty:=o.type) ht hu hi hzv hisz hib hb0 hz1 hz2 (base:=none) (sLen:=0) (sCap:=0) (xs:=[]) rfl (olds:=[]) (by simp) (by simp) (.inl rfl)
      (fun _ _ _ _ _ _=>by simp[D.row]) hln hln1 hnews hrowY (c:=cap) gq (by simpa using hbd) (id:=j)
      (by rw[hbj];exact⟨_,_,rfl,by simp,fun h=>by simp at h;omega⟩)
     refine⟨v,w',β',env,_,_,hexec _ _ (by rw[hxv,h1,hyv];exact hrun),?_,?_,hk⟩
     ·simpa using hst'
     ·simpa using hok
   ·by_cases hroom:xs.length+ys.length<=capg
    ·-- room
     have hfit:xs.length*e'+news.length<=vs.size:=by
      rw[h3,hln,<-bC];exact cn _ hroom
     have hrun:=vD (P:=P) (w:=w) t u o.type e e2 i ht hu hi g xs.length capg vs e h2 ad ys.length cap news (by rw[hisz];exact hln)
      (hnews.imp (fun x=>x) fun⟨b',o',q1,q2⟩=>⟨b',o',q1,fun j v hj=>(q2 j v hj).1⟩) hln1 hroom (by rw[hisz];exact hfit)
     rw[hisz]at hrun;have hbl:gw β s j g:=by unfold gw;rw[hsj];exact⟨capg,by rw[hbj,h1]⟩
     obtain⟨hst',m⟩:=hst.Sz (id:=j) (b:=g) (ob:=.tok e e' (xs.length+ys.length))
      (p:=.tok (.slice (some ⟨g,0,none⟩) (xs.length+ys.length) capg) (xs.length+ys.length))
      (w':=w.setRow g (vs.toList.take (xs.length*e')++news++vs.toList.drop (xs.length*e'+news.length)).toArray)
      hbl (by simp) (by simp[Ec]) (fun b' hb'=>fJ w g b' _ (fun e=>hb' e))
      (fun q v hcell hn=>by
       have hq:q<xs.length*e':=by
        rcases cu q (xs.length*e')with hlt|hge
        ·exact hlt
        ·exact absurd ⟨j,by rw[hsj];exact⟨capg,by rw[hbj,h1],hge⟩⟩ hn
       have hh':=eF w g vs (vs.toList.take (xs.length*e')++news++vs.toList.drop (xs.length*e'+news.length)).toArray e (0,0) h2;simp only[World.cell?,h2,cw,av,aI]at hcell;simp only[World.cell?,hh',cw,av,aI];rw[<-hcell];have hq2:q<(vs.toList.take (xs.length*e')).length:=by simp;omega
       simp only[List.getElem?_toArray];rw[aL,aT hq2,bS,ah hq];simp)
      (fun b' q hown=>by
       obtain⟨i',hown⟩:=hown;by_cases hi':i'=j
       ·subst hi';simp only[sat,aO,gC]at hown;obtain⟨cap',q1,q2⟩:=hown;simp at q1;obtain⟨rfl,_⟩:=q1;refine⟨i',?_⟩;rw[hsj];refine⟨capg,by rw[hbj,h1],bN (cn _ (Nat.le_add_right _ _)) q2⟩
       ·simp[sat,hi']at hown)
      (fun b' hb'=>by
       simp only[gw,sat,aO,gC]at hb';obtain⟨_,hb'⟩:=hb';simp at hb';exact hb'.1.symm)
      (by
       rw[hbj];refine⟨_,_,rfl,gq,fun hh=>?_⟩;have:ys.length=0:=by omega
       rw[h1,this];rfl)
      (fun β' F _ _ hp=>⟨_,hp,.inr ⟨g,capg,_,rfl,eF w g vs _ e (0,0) h2,by
       simp only[dc,aj,aW,bK,Array.length_toList];omega,hroom,h5,fun v hv=>by
        simp only[aM]at hv;rcases hv with(hv|hv)|hv
        ·exact h6 v (bE hv)
        ·exact hln1 v hv
        ·exact h6 v (cA hv)⟩⟩)
     refine⟨_,_,_,env,_,_,hexec _ _ (by rw[hxv,h1,hyv];exact hrun),hst',?_,hk⟩;simp only[AV.ok,D.ok];refine⟨⟨_,capg,by rw[aj],by rw[aj];exact⟨hroom,h5⟩,trivial,.inr ⟨g,0,rfl,?_⟩⟩,_,xs.length+ys.length,by simp[gC,Place.at],by simp,fun _=>rfl⟩;have hh':=eF w g vs (vs.toList.take (xs.length*e')++news++vs.toList.drop (xs.length*e'+news.length)).toArray e (0,0) h2;have hforb:∀q,q<(xs.length+ys.length)*e'->¬C.gD (gC β j (.tok (.slice (some ⟨g,0,none⟩) (xs.length+ys.length) capg) (xs.length+ys.length))) (sset s j (.tok e e' (xs.length+ys.length))) g q:=by
      intro q hq hf;rcases hf with hf|hf
      ·-- the outer memory:g is not below,or it is owned
       have h7:=hst.inv.low _ _ hf;by_cases hq1:q<xs.length*e'
       ·rcases hrx with hrx|⟨b',o',q2,q3⟩
        ·subst hrx;simp at hq1
        ·obtain⟨us,k1,k2,_⟩:=xm q3;rw[h1]at hxa;simp only[ct]at hxa;rw[<-hxa.1]at q2;cases q2;have hlt:q<us.length:=by omega
         have:=(k2 q _ (aA hlt)).2.1;exact this (.inl (by simpa using hf))
       ·rcases hst.inv.qb g q ⟨j,by rw[hsj];exact⟨capg,by rw[hbj,h1],gq⟩⟩with h8|h8
        ·exact h7.2 h8
        ·omega
      ·rcases Ma hf with⟨i',hi',hf⟩|hf
       ·exact hi' (hst.inv.inj i' j g hf hbl)
       ·obtain⟨i',hf⟩:=hf;by_cases hi':i'=j
        ·subst hi';simp only[sat,aO,gC]at hf;obtain⟨_,_,hf⟩:=hf;omega
        ·simp[sat,hi']at hf
     have hXcells:D.row (C.gD (gC β j (.tok (.slice (some ⟨g,0,none⟩) (xs.length+ys.length) capg) (xs.length+ys.length))) (sset s j (.tok e e' (xs.length+ys.length))))
      (w.setRow g (vs.toList.take (xs.length*e')++news++vs.toList.drop (xs.length*e'+news.length)).toArray) g 0 e' xs:=by
      rcases hrx with hrx|⟨b',o',q2,q3⟩
      ·subst hrx;simp[D.row]
      ·rw[h1]at hxa;simp only[ct]at hxa;rw[<-hxa.1]at q2;cases q2;exact D.vC m.stays _ _ _ _ q3
     refine vZ hXcells (hrowY _ _ _ _ m.stays ?_);refine uX hh' (fun q v hq=>?_) (fun q hq=>hforb _ ?_) hln1
     ·have hq2:q<news.length:=(aP.1 hq).1;have hlen:(vs.toList.take (xs.length*e')).length=xs.length*e':=by simp;omega
      simp only[aX];rw[aL,bI gq,hlen,eM,aT hq2];exact hq
     ·rw[bC];omega
    ·-- no room
     have hrowX:∃olds:List Value,olds.length=xs.length*e'/\(∀v∈olds,one v=true)/\(olds=[]\/∃b' o,(some ⟨g,0,none⟩:Option Addr)=some ⟨b',o,none⟩/\jI (C.gD β s) w b' o olds)/\
      ∀(O':Own)(w':World)(b' o':Nat),(∀b o v,w.cell? ⟨b,o,none⟩=some v->¬C.gD β s b o->w'.cell? ⟨b,o,none⟩=some v/\¬O' b o)->
       jI O' w' b' o' olds->D.row O' w' b' o' e' xs:=by
      rcases hrx with hrx|⟨b',o',q2,q3⟩
      ·subst hrx;exact⟨[],by simp,by simp,.inl rfl,fun _ _ _ _ _ _=>by simp[D.row]⟩
      ·rw[h1]at hxa;simp only[ct]at hxa;rw[<-hxa.1]at q2;obtain⟨us,k1,k2,k3⟩:=xm q3;exact⟨us,k1,k2.one,.inr ⟨b',o',q2,k2⟩,k3⟩
     obtain⟨olds,o1,o2,o3,o4⟩:=hrowX;obtain⟨v,w',β',hrun,hst',hok⟩:=Be (P:=P) hst (ty:=o.type) ht hu hi hzv hisz hib hb0 hz1 hz2 (base:=some ⟨g,0,none⟩) (sLen:=xs.length) (sCap:=capg) (xs:=xs) rfl (olds:=olds) o1 o2 o3 o4
      hln hln1 hnews hrowY (c:=cap) gq hbd (id:=j)
      (by rw[hbj];exact⟨_,_,rfl,gq,fun h=>by omega⟩)
     exact⟨v,w',β',env,_,_,hexec _ _ (by rw[hxv,h1,hyv];exact hrun),hst',hok,hk⟩
  ·rename_i e' j n hxe;obtain⟨rfl,hk⟩:=hk;split at hk
   ·rename_i t' e2' m' cs hsj;obtain⟨rfl,rfl,rfl,hbd,hk⟩:=hk;rw[hxe]at hx;obtain⟨ad',cap',news',hyv',hln',hln1',hnews',hys'⟩:=Fu (e:=e2') (hst.ev y) hys he3;obtain⟨v,w',β',hrun,hst',hok⟩:=Nv (P:=P) hst (ty:=o.type) ht hu hi hzv hisz hib hb0 hz1 hz2 hsj hx (c:=cap') hln' hln1' hnews' hys' hbd;exact⟨v,w',β',env,_,_,hexec _ _ (by rw[hyv'];exact hrun),hst',hok,hk⟩
   ·exact hk.elim
  ·rename_i e4 hxe;obtain⟨hbd,hk⟩:=hk;rw[hxe]at hx;simp only[AV.ok,D.ok]at hx;obtain⟨ax,capx,hxv,_,hnl,_⟩:=hx;obtain⟨rfl,rfl⟩:=hnl;simp only[bG]at hxv;obtain⟨β1,env1,s1,f,hst1,hd1,hk1,_,hf⟩:=pK hk hst;by_cases hy0:ys=[]
   ·subst hy0;have hrun:=tK (P:=P) (w:=w) t u o.type e e2 i ht hu hi ad cap;obtain⟨β',hst',hok⟩:=G4 hst1 (id:=d) e sz hd1;exact⟨_,w,β',env1,_,_,hexec _ _ (by rw[hxv,hyv];exact hrun),hst',hok,hk1⟩
   ·have hpos:0<ys.length:=bQ.2 hy0;have hno:β1 d=.no:=by have:=hst1.inv.obs d;rw[hd1]at this;exact this
    obtain⟨v,w',β',hrun,hst',hok⟩:=Be (P:=P) hst1 (ty:=o.type) ht hu hi hzv hisz hib hb0 hz1 hz2 (base:=none) (sLen:=0) (sCap:=0) (xs:=[]) rfl (olds:=[]) (by simp) (by simp) (.inl rfl)
     (fun _ _ _ _ _ _=>by simp[D.row]) hln hln1
     (hnews.imp (fun x=>x) fun⟨b',o',q1,q2⟩=>⟨b',o',q1,q2.mono fun b o v hc hn=>⟨hc,fun h=>hn (hf b o h)⟩⟩)
     (fun O' w' b' o' hm hc=>hrowY O' w' b' o' (fun b o v q1 q2=>hm b o v q1 fun h=>q2 (hf b o h)) hc) (c:=cap) gq (by simpa using hbd) (id:=d)
     (by rw[hno];trivial)
    refine⟨v,w',β',env1,_,_,hexec _ _ (by rw[hxv,hyv];exact hrun),?_,?_,hk1⟩
    ·simpa using hst'
    ·simpa using hok
  ·rename_i e' xs hxe;obtain⟨rfl,hbd,hk⟩:=hk;rw[hxe]at hx;simp only[AV.ok]at hx;obtain⟨ax,hxv,hxd⟩:=hx;by_cases hy0:ys=[]
   ·subst hy0;have hrun:=AQ (P:=P) (w:=w) t u o.type e e2 i ht hu hi ax ad xs.length cap;exact⟨_,w,β,env,s,_,hexec _ _ (by rw[hxv,hyv];exact hrun),hst,by simp only[AV.ok,bf];rw[<-hxv];exact hxd,hk⟩
   ·have hpos:0<ys.length:=bQ.2 hy0;simp only[D.ok]at hxd;obtain⟨a2,cap2,q1,_,_,hrx⟩:=hxd;rw[hxv]at q1;cases q1;have hrowX:∃olds:List Value,olds.length=xs.length*e'/\(∀v∈olds,one v=true)/\(olds=[]\/∃b' o,ax=some ⟨b',o,none⟩/\jI (C.gD β s) w b' o olds)/\
     ∀(O':Own)(w':World)(b' o':Nat),(∀b o v,w.cell? ⟨b,o,none⟩=some v->¬C.gD β s b o->w'.cell? ⟨b,o,none⟩=some v/\¬O' b o)->
      jI O' w' b' o' olds->D.row O' w' b' o' e' xs:=by
     rcases hrx with hrx|⟨b',o',q2,q3⟩
     ·subst hrx;exact⟨[],by simp,by simp,.inl rfl,fun _ _ _ _ _ _=>by simp[D.row]⟩
     ·obtain⟨us,k1,k2,k3⟩:=xm q3;exact⟨us,k1,k2.one,.inr ⟨b',o',q2,k2⟩,k3⟩
    obtain⟨olds,o1,o2,o3,o4⟩:=hrowX;obtain⟨v,w',hrun,hst',hok⟩:=KC (P:=P) hst (ty:=o.type) ht hu hi hzv hisz hib hb0 hz2 (base:=ax) (sLen:=xs.length) (sCap:=xs.length) (xs:=xs) rfl (olds:=olds) o1 o2 o3 o4
     hln hln1 hnews hrowY (c:=cap) gq hbd
    exact⟨v,w',β,env,s,_,hexec _ _ (by rw[hxv,hyv];exact hrun),hst',by simpa only[AV.ok]using hok,hk⟩
  ·exact hk.elim
theorem Sb{c:Call}{d:Nat}(hop:o.op=.call c)(hc:c.callee=.builtin .append){x y:Operand}(ha:c.args=#[x,y]){t u:Nat}
 (hat:c.argTypes[0]?=some t) (hau:c.argTypes[1]?=some u) {e e2:Nat} (ht:P.underlying t=some (.slice e)) (hu:P.underlying u=some (.slice e2))
 {sz by':Nat} (hsz:jE P e=some sz) (hby:vL P e=some by') {z:List D} (hz:rf P e=some z) (hsz0:0<sz) (hb0:0<by')
 (hk:Et d e sz by' C.k (ev env x) (ev env y) env s fun x env s=>k (gU o.dst env x) s):mF P C o env s k:=by
 intro hnd Q β a w hst;unfold Et at hk;split at hk
 case h_2=>exact QM hop hc ha hat hau ht hu hsz hby hz hsz0 hb0 hk hnd Q β a w hst
 rename_i e2' ys e4 hys hxe;revert hnd Q β a w;show mF P C o env s k;refine .value fun β a w hst=>?_
 obtain⟨i,zv,hi,hzv,hz1,hz2,_⟩:=mS hz;have hisz:i.size=sz:=by obtain⟨i',h1,h2⟩:=jN hsz;rw[hi]at h1;cases h1;exact h2
 have hib:i.bytes=by':=by obtain⟨i',h1,h2⟩:=sN hby;rw[hi]at h1;cases h1;exact h2
 have hexec:∀v w',(Builtin.append_ #[t,u] o.type #[a.eval x,a.eval y]).run P w=.ok v w'->(execOp a.eval o).run P w=.ok (.value v) w':=by
  intro v w' hr;have hargs:c.argTypes[0]?=some t/\c.argTypes[1]?=some u:=⟨hat,hau⟩;have:∀w,(Builtin.append_ c.argTypes o.type #[a.eval x,a.eval y]).run P w=(Builtin.append_ #[t,u] o.type #[a.eval x,a.eval y]).run P w:=by
   intro w;unfold Builtin.append_;simp[hat,hau]
  simp[execOp,hop,resolve,hc,ha,invoke,builtin,this,hr]
 obtain⟨he3,hbd,hk⟩:=hk;obtain⟨ad,cap,news,hyv,hln,hln1,hnews,hoks⟩:=Fu (e:=sz) (hst.ev y) hys he3;have hx:=hst.ev x;rw[hxe]at hx;simp only[AV.ok,D.ok]at hx;obtain⟨ax,capx,hxv,_,hnl,_⟩:=hx;obtain⟨rfl,rfl⟩:=hnl;simp only[bG]at hxv;obtain⟨β1,env1,s1,f,hst1,hd1,hk1,_,hf⟩:=pK hk hst;have hmo:∀b o v,w.cell? ⟨b,o,none⟩=some v->¬C.gD β s b o->w.cell? ⟨b,o,none⟩=some v/\¬C.gD β1 s1 b o:=fun b o v hc hn=>⟨hc,fun h=>hn (hf b o h)⟩
 by_cases hy0:ys=[]
 ·subst hy0;have hrun:=tK (P:=P) (w:=w) t u o.type e e2 i ht hu hi ad cap;obtain⟨β',hst',hok⟩:=GF hst1 (id:=d) e sz hd1;exact⟨_,w,β',env1,_,_,hexec _ _ (by rw[hxv,hyv];exact hrun),hst',hok,hk1⟩
 ·have hpos:0<ys.length:=bQ.2 hy0;have hno:β1 d=.no:=by have:=hst1.inv.obs d;rw[hd1]at this;exact this
  obtain⟨v,w',β',hrun,hst',hok⟩:=BG (P:=P) hst1 (ty:=o.type) ht hu hi hzv hisz hib hb0 hz1 hz2 (base:=none) (sLen:=0) (sCap:=0) (cs:=[]) (olds:=[]) (by simp) (by simp) (.inl rfl) (by simp[D.gO])
   hln hln1 (hnews.imp (fun x=>x) fun⟨b',o',q1,q2⟩=>⟨b',o',q1,q2.mono hmo⟩) (D.jb hmo _ _ hoks) (c:=cap) gq (by simpa using hbd) (id:=d)
   (by rw[hno];trivial)
  refine⟨v,w',β',env1,_,_,hexec _ _ (by rw[hxv,hyv];exact hrun),?_,?_,hk1⟩
  ·simpa using hst'
  ·simpa using hok
end
theorem CT(off:Nat):∀(vs:List Value)(j:Nat)(cs:Array Value),off+j+vs.length<=cs.size->
 ((vs.zipIdx j).foldl (fun(cs:Array Value)(x:Value×Nat)=>cs.setIfInBounds (off+x.2) x.1) cs).toList=cs.toList.take (off+j)++vs++cs.toList.drop (off+j+vs.length)
 |[],j,cs,h=>by simp
 |v::vs,j,cs,h=>by
  simp only[ai]at h;rw[fG,List.foldl_cons,CT off vs (j+1) _ (by simp;omega)];have e:=Go.list_seg_step cs.toList (off+j) v vs (by simp;omega);simp only[Array.toList_setIfInBounds,ai]at e⊢;have e1:off+(j+1)=off+j+1:=by omega
  rw[e1];rw[<-e]
theorem zY{place:Nat->Option fR}{cells:Array Value}{i:Nat}{v:Value}{rest:List (Nat×Value)}{off size:Nat}
 (hp:place i=some (off,size)) (hs:v.cells.size=size) (hl:off+size<=cells.size):
 Instr.fill place cells ((i,v)::rest)=Instr.fill place (cells.toList.take off++v.cells.toList++cells.toList.drop (off+size)).toArray rest:=by
 have h1:¬(v.cells.size≠size||decide (off+v.cells.size>cells.size))=true:=by simp[hs];omega
 have e:v.cells.zipIdx.foldl (fun(cs:Array Value)(x:Value×Nat)=>cs.setIfInBounds (off+x.2) x.1) cells=
  (cells.toList.take off++v.cells.toList++cells.toList.drop (off+size)).toArray:=by
  apply cG;rw[<-Array.foldl_toList,Array.toList_zipIdx,CT off v.cells.toList 0 cells (by simp[hs];omega)];simp[hs]
 simp only[Instr.fill,hp];rw[ay h1];rw[<-e]
section
variable{P:Program}{C:Ctx}{o:Oper}{env:List AV}{s:gA}{k:List AV->gA->Prop}
theorem mapM_some_length{α β:Type}(f:α->Option β):∀(l:List α){r:List β},l.mapM f=some r->r.length=l.length
 |[],r=>fun h=>by simp at h;subst h;rfl
 |x::xs,r=>fun h=>by
  simp only[cU,di,aB]at h;obtain⟨y,_,ys,h2,h3⟩:=h;cases h3;simp[mapM_some_length f xs h2]
theorem Bu{β:gI}{a:Act}{w:World}(hst:St C β env s a w){fs:Array Field}:
 ∀(ps:List (Nat×Operand))(qs:List (Nat×Nat×Operand))(cs cs':List AV)(cells:Array Value),
  ps.mapM (partsOf P fs)=some qs->od env cs qs=some cs'->AV.gO β (C.gD β s) w cs cells.toList->(∀v∈cells.toList,one v=true)->
  ∀(places:Array fR),(∀(i:Nat)(f:Field)(n:Nat),fs[i]?=some f->jE P f.type=some n->places[i]?=some (f.offset,n))->
  ∃out:Array Value,Instr.fill (places[·]?) cells (ps.map fun p=>(p.1,a.eval p.2))=some out/\AV.gO β (C.gD β s) w cs' out.toList/\∀v∈out.toList,one v=true
 |[],qs,cs,cs',cells=>fun h1 h2 h3 h4 places _=>by
  simp at h1;subst h1;simp only[od,aQ]at h2;subst h2;exact⟨cells,rfl,h3,h4⟩
 |p::ps,qs,cs,cs',cells=>fun h1 h2 h3 h4 places hpl=>by
  simp only[cU,di,aB]at h1;obtain⟨q,hq,qs',h5,h6⟩:=h1;cases h6;unfold partsOf at hq;cases hf:fs[p.1]? with
  |none=>simp[hf]at hq
  |some f=>
   cases hn:jE P f.type with
   |none=>simp[hf,hn]at hq
   |some n=>
    simp only[hf,hn,aa,aV,aQ]at hq;subst hq;simp only[od]at h2;split at h2
    ·rename_i xs hxs;split at h2
     ·rename_i hcond;obtain⟨hx1,hx2⟩:=vq (hst.ev p.2) hxs;have hl:=AV.gY h3;have hlx:=AV.gY hx1;have hsz:(a.eval p.2).cells.size=n:=by rw[<-hcond.1,<-hlx];simp
      have hfc:=zY (place:=(places[·]?)) (rest:=ps.map fun p=>(p.1,a.eval p.2)) (hpl p.1 f n hf hn) hsz (cells:=cells) (by simp at hl;omega);obtain⟨out,h7,h8,h9⟩:=Bu hst ps qs' _ cs' (cells.toList.take f.offset++(a.eval p.2).cells.toList++cells.toList.drop (f.offset+n)).toArray h5 h2
       (by exact nJ (nJ (xh _ h3) hx1) (xe _ h3))
       (fun v hv=>by
        simp only[aM]at hv;rcases hv with(hv|hv)|hv
        ·exact h4 v (bE hv)
        ·exact hx2 v hv
        ·exact h4 v (cA hv)) places hpl
      exact⟨out,by rw[aZ,hfc];exact h7,h8,h9⟩
     ·cases h2
    ·cases h2
theorem Fa{P:Program}{w:World}{f:Field->Sem fR}{g:Field->Nat×Nat}:∀(l:List Field),(∀x∈l,(f x).run P w=.ok (g x) w)->
 (l.mapM f).run P w=.ok (l.map g) w
 |[],_=>by simp
 |x::xs,h=>by
  rw[cU];simp[h x (by simp),Fa xs fun y hy=>h y (by simp[hy])]
theorem OY{t:Nat}{ps:Array (Nat×Operand)}(hop:o.op=.build t ps){fs:Array Field}(hu:P.underlying t=some (.struct fs)){z:List D}(hz:rf P t=some z)
 (hall:∀f∈fs.toList,(jE P f.type).isSome=true)
 {qs:List (Nat×Nat×Operand)} (hq:ps.toList.mapM (partsOf P fs)=some qs) {cs:List AV} (hc:od env (z.map .d) qs=some cs)
 (hk:k (gU o.dst env (AV.mk cs)) s):mF P C o env s k:=by
 refine .value fun β a w hst=>?_
 obtain⟨i,u,hi,hzu,hsz,h1,rfl⟩:=mS hz;have hrunz:∀w,(fs.mapM fun(f:Field)=>do pure (f.offset,<-Go.sizeOf f.type):Sem (Array fR)).run P w=.ok (fs.map fun(f:Field)=>(f.offset,(jE P f.type).getD 0)) w:=by
  intro w;rw[Array.mapM_eq_mapM_toList];have:=Fa (P:=P) (w:=w) (f:=fun(f:Field)=>do pure (f.offset,<-Go.sizeOf f.type)) (g:=fun(f:Field)=>(f.offset,(jE P f.type).getD 0)) fs.toList (fun f hf=>by
   have:=hall f hf;cases hn:jE P f.type with
   |none=>rw[hn]at this;cases this
   |some n=>
    obtain⟨i,hi,hin⟩:=jN hn;simp[Go.sizeOf,typeInfo,hi,hin])
  simp only[Sem.run_map,this,aG];congr 1;apply cG;simp
 obtain⟨out,h2,h3,h4⟩:=Bu hst ps.toList qs _ cs u.cells hq hc (HU (zQ _ h1)) h1 (fs.map fun(f:Field)=>(f.offset,(jE P f.type).getD 0)) (fun i f n hf hn=>by
  simp[hf,hn])
 refine⟨.agg out,w,β,env,s,_,?_,hst,LY h3 h4,hk⟩;have hmap:(ps.map fun p=>(p.1,a.eval p.2)).toList=ps.toList.map fun p=>(p.1,a.eval p.2):=by simp
 simp only[execOp,hop,Instr.build,zeroValue,typeInfo,aU,cT,aG,hi,hzu,bg,a_ hu];rw[hrunz];simp only[aG,hmap,h2];simp
theorem Mt{t:Nat}{ps:Array (Nat×Operand)}(hop:o.op=.build t ps){n e:Nat}(hu:P.underlying t=some (.array n e)){z:List D}(hz:rf P t=some z)(hps:ps.toList=[])
 {m:Nat} (hm:jE P e=some m) (hk:k (gU o.dst env (AV.mk (z.map .d))) s):mF P C o env s k:=by
 refine .value fun β a w hst=>?_
 obtain⟨i,u,hi,hzu,hsz,h1,rfl⟩:=mS hz;obtain⟨j,hj,hjm⟩:=jN hm;refine⟨.agg u.cells,w,β,env,s,_,?_,hst,LY (HU (zQ _ h1)) h1,hk⟩;have hps':ps=#[]:=cG hps;subst hps';simp[execOp,hop,Instr.build,zeroValue,typeInfo,aU,cT,aG,hi,hzu,bg,a_ hu,Go.sizeOf,hj,Instr.fill]
end
mutual
theorem HY{β:gI}{O:Own}{w:World}:∀(x:AV)(v:Value)(d:D),x.fin=some d->AV.ok β O w x v->D.ok O w d v
 |.d y,v,d=>fun hd h=>by simp only[AV.fin,aQ]at hd;subst hd;simpa[AV.ok]using h
 |.own e id xs,v,d=>fun hd h=>by simp only[AV.fin,aQ]at hd;subst hd;simp only[AV.ok]at h;exact h.1
 |.agg cs,v,d=>fun hd h=>by
  simp only[AV.fin,aF]at hd;obtain⟨ds,h1,rfl⟩:=hd;simp only[AV.ok]at h;obtain⟨vs,rfl,h2,h3⟩:=h;simp only[D.ok];exact⟨vs,rfl,Bv cs vs.toList ds h1 h2 h3⟩
 |.hM,v,d=>fun hd=>by simp[AV.fin]at hd
 |.ptr _ _,v,d=>fun hd=>by simp[AV.fin]at hd
 |.mm _ _ _ _,v,d=>fun hd=>by simp[AV.fin]at hd
 |.pv _,v,d=>fun hd=>by simp[AV.fin]at hd
 |.pa _,v,d=>fun hd=>by simp[AV.fin]at hd
 |.l_ _,v,d=>fun hd=>by simp[AV.fin]at hd
 |.fn _ _ _,v,d=>fun hd=>by simp[AV.fin]at hd
 |.jM _ _ _,v,d=>fun hd=>by simp[AV.fin]at hd
 |.kH _ _ _,v,d=>fun hd=>by simp[AV.fin]at hd
 |.Ac _ _,v,d=>fun hd=>by simp[AV.fin]at hd
 |.dp _,v,d=>fun hd=>by simp[AV.fin]at hd
 |.mp _,v,d=>fun hd=>by simp[AV.fin]at hd
theorem Bv{β:gI}{O:Own}{w:World}:∀(xs:List AV)(vs:List Value)(ds:List D),AV.lu xs=some ds->(∀u∈vs,one u=true)->AV.gO β O w xs vs->D.gO O w ds vs
 |[],vs,ds=>fun hd _ h=>by simp only[AV.lu,aQ]at hd;subst hd;simpa[AV.gO,D.gO]using h
 |x::xs,vs,ds=>fun hd h1 h=>by
  simp only[AV.lu,aB,aF]at hd;obtain⟨y,h2,ys,h3,rfl⟩:=hd;simp only[AV.gO]at h;obtain⟨v,r,rfl,h4,h5⟩:=h;simp only[D.gO];exact⟨v,r,rfl,h1 v (by simp),HY x v y h2 h4,Bv xs r ys h3 (fun u hu=>h1 u (by simp[hu])) h5⟩
end
theorem Dw{β:gI}{O:Own}{w:World}{x:AV}{v:Value}{d:D}(h:AV.ok β O w x v)(hd:x.fin=some d):D.ok O w d v:=HY x v d hd h
theorem xJ{O:Own}{w:World}{d:D}{v:Value}(h:D.ok O w d v):D.gO O w (gx d) v.cells.toList:=by
 cases d with
 |agg cs=>simp only[D.ok]at h;obtain⟨vs,rfl,h⟩:=h;exact h
 |any=>
  have h':=h;simp only[D.ok]at h;have:v.cells=#[v]:=by cases v<;>simp_all[Value.cells,one]
  simp only[gx,this,D.gO];exact⟨v,[],rfl,h,h',rfl⟩
 |lit u=>
  have h':=h;simp only[D.ok]at h;obtain⟨rfl,h1⟩:=h;have:v.cells=#[v]:=by cases v<;>simp_all[Value.cells,one]
  simp only[gx,this,D.gO];exact⟨v,[],rfl,h1,h',rfl⟩
 |sl e nl xs=>
  have h':=h;simp only[D.ok]at h;obtain⟨a,cap,rfl,_⟩:=h;simp only[gx,Value.cells,D.gO];exact⟨_,[],rfl,rfl,h',rfl⟩
def oC(O:Own)(w:World)(e:Nat):List D->List Value->Prop
 |[],vs=>vs=[]
 |d::ds,vs=>∃us r,vs=us++r/\us.length=e/\D.gO O w (gx d) us/\oC O w e ds r
theorem oC.length{O:Own}{w:World}{e:Nat}:∀{ds:List D}{vs:List Value},oC O w e ds vs->vs.length=ds.length*e
 |[],vs=>fun h=>by simp only[oC]at h;simp[h]
 |d::ds,vs=>fun h=>by
  simp only[oC]at h;obtain⟨us,r,rfl,h1,_,h3⟩:=h;simp[h1,h3.length,bC];omega
theorem oC.row{O O':Own}{w w':World}{b e:Nat}(hm:∀b o v,w.cell? ⟨b,o,none⟩=some v->¬O b o->w'.cell? ⟨b,o,none⟩=some v/\¬O' b o):
 ∀{ds:List D}{vs:List Value}{o:Nat},oC O w e ds vs->jI O' w' b o vs->D.row O' w' b o e ds
 |[],vs,o=>fun _ _=>by simp[D.row]
 |d::ds,vs,o=>fun h hc=>by
  simp only[oC]at h;obtain⟨us,r,rfl,h1,h2,h3⟩:=h;rw[D.lY];refine⟨⟨us,h1,fun j v hj=>?_,Ii (D.jb hm _ _ h2)⟩,h3.row hm fun j v hj=>?_⟩
  ·have hlt:j<us.length:=(aP.1 hj).1;exact hc j v (by rw[aT hlt];exact hj)
  ·have:=hc (us.length+j) v (by rw[bI gq];simpa using hj);rw[h1]at this;rwa [cQ]
theorem oC.flat{O:Own}{w:World}{e:Nat}:∀{ds:List D}{vs:List Value},oC O w e ds vs->(∀x∈ds,(gx x).length=e)->
 D.gO O w (ds.flatMap gx) vs/\(ds.flatMap gx).length=ds.length*e
 |[],vs,h,_=>by simp only[oC]at h;subst h;simp[D.gO]
 |d::ds,vs,h,he=>by
  simp only[oC]at h;obtain⟨us,r,rfl,h1,h2,h3⟩:=h;obtain⟨h4,h5⟩:=h3.flat fun x hx=>he x (by simp[hx])
  rw[bH];exact⟨qQ h2 h4,by rw[aj,h5,he d (by simp),ai,bC];omega⟩
section
variable{P:Program}{C:Ctx}{o:Oper}{env:List AV}{s:gA}{k:List AV->gA->Prop}
theorem yZ{O:Own}{w:World}{e:Nat}:∀(ds:List D)(vs:List Value)(j:Nat)(cells:Array Value),(∀v∈vs,v.cells.size=e)->
 (∀(i:Nat)(d:D)(v:Value),ds[i]?=some d->vs[i]?=some v->D.ok O w d v)->ds.length=vs.length->cells.size=(j+vs.length)*e->
 ∃out:Array Value,Instr.fill (fun i=>some (i*e,e)) cells ((vs.zipIdx j).map fun p=>(p.2,p.1))=some out/\
  ∃us,oC O w e ds us/\out.toList=cells.toList.take (j*e)++us
 |[],[],j,cells,_,_,_,h4=>⟨cells,rfl,[],rfl,by simp at h4;simp[<-h4,<-Array.length_toList,bh]⟩
 |[],_::_,_,_,_,_,h3,_=>by simp at h3
 |_::_,[],_,_,_,_,h3,_=>by simp at h3
 |d::ds,v::vs,j,cells,h1,h2,h3,h4=>by
  have hv:=h1 v (by simp);have hfit:j*e+e<=cells.size:=by
   rw[h4,<-Nat.succ_mul];exact cn _ (by simp)
  have hfc:=zY (place:=fun i=>some (i*e,e)) (i:=j) (rest:=(vs.zipIdx (j+1)).map fun p=>(p.2,p.1)) rfl hv hfit;have hsz:(cells.toList.take (j*e)++v.cells.toList++cells.toList.drop (j*e+e)).length=(j+1+vs.length)*e:=by
   simp[hv];rw[h4]at hfit⊢;simp only[ai]at hfit⊢;have:(j+1+vs.length)*e=(j+(vs.length+1))*e:=by congr 1;omega
   rw[this];omega
  obtain⟨out,h5,us,h6,h7⟩:=yZ ds vs (j+1) (cells.toList.take (j*e)++v.cells.toList++cells.toList.drop (j*e+e)).toArray
   (fun u hu=>h1 u (by simp[hu])) (fun i d u hd hu=>h2 (i+1) d u (by simpa using hd) (by simpa using hu)) (by simpa using h3) (by simpa using hsz)
  refine⟨out,by rw[fG,aZ,hfc];exact h5,v.cells.toList++us,?_,?_⟩
  ·simp only[oC];exact⟨_,_,rfl,by simpa using hv,xJ (h2 0 d v rfl rfl),h6⟩
  ·rw[h7];have hl:(cells.toList.take (j*e)++v.cells.toList).length=(j+1)*e:=by
    simp[hv,bC];omega
   rw[fL hl];simp
theorem uN:∀{xs:List AV}{ds:List D},AV.lu xs=some ds->ds.length=xs.length/\∀(i:Nat)(x:AV)(d:D),xs[i]?=some x->ds[i]?=some d->x.fin=some d
 |[],ds=>fun h=>by simp only[AV.lu,aQ]at h;subst h;simp
 |x::xs,ds=>fun h=>by
  simp only[AV.lu,aB,aF]at h;obtain⟨y,h1,ys,h2,rfl⟩:=h;obtain⟨h3,h4⟩:=uN h2;refine⟨by simp[h3],fun i z d hz hd=>?_⟩;cases i with
  |zero=>simp at hz hd;subst hz;subst hd;exact h1
  |succ i=>exact h4 i z d (by simpa using hz) (by simpa using hd)
theorem zM{z:Array Value}(h:∀v∈z.toList,one v=true)(n:Nat)(hz:n=0\/0<z.size):∀v∈((Array.range n).map fun i=>z[i%z.size]!).toList,one v=true:=by
 intro v hv;simp at hv;obtain⟨i,hi,rfl⟩:=hv;rcases hz with rfl|hz
 ·omega
 ·have hlt:i%z.size<z.size:=Nat.mod_lt _ hz;rw[ek z _ hlt];exact h _ (Array.getElem_mem_toList hlt)
theorem U_{d t n:Nat}{ps:Array (Nat×Operand)}(hop:o.op=.buildSlice t n ps){e sz:Nat}(ht:P.underlying t=some (.slice e))(hsz:jE P e=some sz)
 {z:List D} (hz:rf P e=some z) (hn:n*sz<=2^24) (hsz0:0<sz) {xs:List Operand} (hxs:sx n ps.toList=some xs)
 {ds:List D} (hds:AV.lu (xs.map (ev env))=some ds) (hel:∀x∈ds,(gx x).length=sz)
 (hk:tV C.k d env s fun env s _=>k (gU o.dst env (.own sz d ds)) (sset s d (.tok e sz ds.length))):mF P C o env s k:=by
 refine .value fun β a w hst=>?_
 obtain⟨i,u,hi,hzu,hzs,h1,_⟩:=mS hz;have hisz:i.size=sz:=by obtain⟨i',h1,h2⟩:=jN hsz;rw[hi]at h1;cases h1;exact h2
 have hxs':ps.toList.map (·.1)=List.range n/\ps.toList.map (·.2)=xs:=by
  unfold sx at hxs;split at hxs
  ·cases hxs;exact⟨by assumption,rfl⟩
  ·cases hxs
 have hlen:xs.length=n:=by rw[<-hxs'.2];simp;have:=aN List.length hxs'.1;simpa using this
 obtain⟨hdl,hdv⟩:=uN hds;have hdl':ds.length=n:=by rw[hdl,aK,hlen]
 have hok:∀(i:Nat)(d:D)(v:Value),ds[i]?=some d->(xs.map a.eval)[i]?=some v->D.ok (C.gD β s) w d v:=by
  intro i d v hd hv;rw[bk]at hv;cases hx:xs[i]? with
  |none=>rw[hx]at hv;cases hv
  |some x=>
   rw[hx]at hv;cases hv;exact Dw (hst.ev x) (hdv i (ev env x) d (by rw[bk,hx];rfl) hd)
 have hcs:∀v∈xs.map a.eval,v.cells.size=sz:=by
  intro v hv;obtain⟨i,hi⟩:=cB hv;have hlt:i<ds.length:=by have:=(aP.1 hi).1;simp at this;omega
  have h2:=D.gY (xJ (hok i _ v (aA hlt) hi));rw[hel _ (aC hlt)]at h2;simpa using h2
 have hzz:∀v∈((Array.range (n*sz)).map fun i=>u.cells[i%u.cells.size]!).toList,one v=true:=zM h1 _ (.inr gq);obtain⟨out,h2,us,h3,h4⟩:=yZ (O:=C.gD β s) (w:=w) (e:=sz) ds (xs.map a.eval) 0 ((Array.range (n*sz)).map fun i=>u.cells[i%u.cells.size]!) hcs hok (by simp[hdl',hlen]) (by simp[hlen]);simp only[en,eW,bt]at h4;have hzip:((xs.map a.eval).zipIdx 0).map (fun p=>(p.2,p.1))=(ps.map fun p=>(p.1,a.eval p.2)).toList:=by
  rw[dZ];apply dB;intro j;simp only[bk,fe];have e1:=aN (·[j]?) hxs'.1;have e2:=aN (·[j]?) hxs'.2;simp only[bk]at e1 e2;cases hp:ps.toList[j]? with
  |none=>rw[hp]at e2;simp at e2;simpa using e2
  |some p=>
   rw[hp]at e1 e2;simp at e1 e2;rw[<-e2];have hj:j<n:=by
    rcases cu j n with h|h
    ·exact h
    ·rw[bz (by simpa using h)]at e1;cases e1
   rw[dm hj]at e1;cases e1;simp
 rw[hzip]at h2;obtain⟨β1,env1,s1,f,hst1,hd1,hk1,_,hf⟩:=pK hk hst;have hno:β1 d=.no:=by have:=hst1.inv.obs d;rw[hd1]at this;exact this
 have hul:=h3.length;have hEone:∀{ds:List D}{us:List Value},oC (C.gD β s) w sz ds us->∀v∈us,one v=true:=by
  intro ds;induction ds with
  |nil=>intro us h v hv;simp only[oC]at h;subst h;cases hv
  |cons x xs ih=>
   intro us h v hv;simp only[oC]at h;obtain⟨p,r,rfl,_,h6,h7⟩:=h;rcases aM.1 hv with hv|hv
   ·obtain⟨i,hi⟩:=cB hv;have hlt:i<(gx x).length:=by rw[<-D.gY h6];exact(aP.1 hi).1
    exact((D.jd.1 h6).2 i _ v (aA hlt) hi).1
   ·exact ih h7 v hv
 obtain⟨β',hst',hok'⟩:=vX hst1 (id:=d) (t:=e) (e:=sz) (n:=ds.length) (cap:=ds.length) (c:=out) (xs:=ds) (by rw[hno];trivial)
  (by rw[<-hul,<-h4];simp) (au _) (by rw[hdl'];have:n<=n*sz:=cC _ hsz0;omega)
  (by rw[h4];exact hEone h3) rfl
  (fun O' w' hm hc=>by
   rw[h4,<-hul,bh]at hc;exact h3.row (fun b o v q1 q2=>hm b o v q1 fun h=>q2 (hf b o h)) hc)
 refine⟨.slice (some ⟨w.heap.size,0,none⟩) ds.length ds.length,_,β',env1,_,_,?_,hst',hok',hk1⟩;have hbig:¬(n*i.size>2^24):=by rw[hisz];omega
 rw[hdl'];rw[hisz]at hbig;have hrun:(Instr.buildSlice t n (ps.map fun(i,x)=>(i,a.eval x))).run P w=.ok (.slice (some ⟨w.heap.size,0,none⟩) n n) (w.alloc (.cells out e)):=by
  simp only[Instr.buildSlice,aU,a_ ht,aG,Go.sizeOf,typeInfo,cT,hi,bg,hisz];rw[ay hbig];by_cases h0:n*sz=0
  ·have he:((Array.range (n*sz)).map fun i=>u.cells[i%u.cells.size]!)=#[]:=by rw[h0];simp
   have he':((Array.range (n*sz)).map fun i=>(#[]:Array Value)[i%(#[]:Array Value).size]!)=#[]:=by rw[h0];simp
   rw[he,<-he']at h2;rw[ah h0];simp only[bg,aG,h2,aU,newRow,ec,dw]
  ·rw[ay h0];simp only[zeroValue,typeInfo,aU,cT,hi,hzu,bg,aG,h2,newRow,ec,dw]
 simp only[execOp,hop,aU,hrun,aG,bg]
theorem Sd{d t n:Nat}{ps:Array (Nat×Operand)}(hop:o.op=.buildSlice t n ps){e sz:Nat}(ht:P.underlying t=some (.slice e))(hsz:jE P e=some sz)
 {z:List D} (hz:rf P e=some z) (hn:n*sz<=2^24) (hsz0:0<sz) {xs:List Operand} (hxs:sx n ps.toList=some xs)
 {ds:List D} (hds:AV.lu (xs.map (ev env))=some ds) (hel:∀x∈ds,(gx x).length=sz)
 (hk:tV C.k d env s fun env s _=>k (gU o.dst env (.jM sz d ds.length)) (sset s d (.ij e sz ds.length (ds.flatMap gx)))):mF P C o env s k:=by
 refine .value fun β a w hst=>?_
 obtain⟨i,u,hi,hzu,hzs,h1,_⟩:=mS hz;have hisz:i.size=sz:=by obtain⟨i',h1,h2⟩:=jN hsz;rw[hi]at h1;cases h1;exact h2
 have hxs':ps.toList.map (·.1)=List.range n/\ps.toList.map (·.2)=xs:=by
  unfold sx at hxs;split at hxs
  ·cases hxs;exact⟨by assumption,rfl⟩
  ·cases hxs
 have hlen:xs.length=n:=by rw[<-hxs'.2];simp;have:=aN List.length hxs'.1;simpa using this
 obtain⟨hdl,hdv⟩:=uN hds;have hdl':ds.length=n:=by rw[hdl,aK,hlen]
 have hok:∀(i:Nat)(d:D)(v:Value),ds[i]?=some d->(xs.map a.eval)[i]?=some v->D.ok (C.gD β s) w d v:=by
  intro i d v hd hv;rw[bk]at hv;cases hx:xs[i]? with
  |none=>rw[hx]at hv;cases hv
  |some x=>
   rw[hx]at hv;cases hv;exact Dw (hst.ev x) (hdv i (ev env x) d (by rw[bk,hx];rfl) hd)
 have hcs:∀v∈xs.map a.eval,v.cells.size=sz:=by
  intro v hv;obtain⟨i,hi⟩:=cB hv;have hlt:i<ds.length:=by have:=(aP.1 hi).1;simp at this;omega
  have h2:=D.gY (xJ (hok i _ v (aA hlt) hi));rw[hel _ (aC hlt)]at h2;simpa using h2
 have hzz:∀v∈((Array.range (n*sz)).map fun i=>u.cells[i%u.cells.size]!).toList,one v=true:=zM h1 _ (.inr gq);obtain⟨out,h2,us,h3,h4⟩:=yZ (O:=C.gD β s) (w:=w) (e:=sz) ds (xs.map a.eval) 0 ((Array.range (n*sz)).map fun i=>u.cells[i%u.cells.size]!) hcs hok (by simp[hdl',hlen]) (by simp[hlen]);simp only[en,eW,bt]at h4;have hzip:((xs.map a.eval).zipIdx 0).map (fun p=>(p.2,p.1))=(ps.map fun p=>(p.1,a.eval p.2)).toList:=by
  rw[dZ];apply dB;intro j;simp only[bk,fe];have e1:=aN (·[j]?) hxs'.1;have e2:=aN (·[j]?) hxs'.2;simp only[bk]at e1 e2;cases hp:ps.toList[j]? with
  |none=>rw[hp]at e2;simp at e2;simpa using e2
  |some p=>
   rw[hp]at e1 e2;simp at e1 e2;rw[<-e2];have hj:j<n:=by
    rcases cu j n with h|h
    ·exact h
    ·rw[bz (by simpa using h)]at e1;cases e1
   rw[dm hj]at e1;cases e1;simp
 rw[hzip]at h2;obtain⟨β1,env1,s1,f,hst1,hd1,hk1,_,hf⟩:=pK hk hst;have hno:β1 d=.no:=by have:=hst1.inv.obs d;rw[hd1]at this;exact this
 have hul:=h3.length;have hEone:∀{ds:List D}{us:List Value},oC (C.gD β s) w sz ds us->∀v∈us,one v=true:=by
  intro ds;induction ds with
  |nil=>intro us h v hv;simp only[oC]at h;subst h;cases hv
  |cons x xs ih=>
   intro us h v hv;simp only[oC]at h;obtain⟨p,r,rfl,_,h6,h7⟩:=h;rcases aM.1 hv with hv|hv
   ·obtain⟨i,hi⟩:=cB hv;have hlt:i<(gx x).length:=by rw[<-D.gY h6];exact(aP.1 hi).1
    exact((D.jd.1 h6).2 i _ v (aA hlt) hi).1
   ·exact ih h7 v hv
 obtain⟨hfl,hfe⟩:=h3.flat hel;obtain⟨β',hst',hok'⟩:=BH hst1 (id:=d) (t:=e) (e:=sz) (n:=ds.length) (cap:=ds.length) (c:=out) (cs:=ds.flatMap gx) (pre:=us) (rest:=[]) (by rw[hno];trivial)
  (by rw[<-hul,<-h4];simp) (au _) (by rw[hdl'];have:n<=n*sz:=cC _ hsz0;omega)
  (by rw[h4];exact hEone h3) hfe (by rw[h4];simp) (D.jb (fun _ _ _ hc hn=>⟨hc,fun h=>hn (hf _ _ h)⟩) _ _ hfl)
 refine⟨.slice (some ⟨w.heap.size,0,none⟩) ds.length ds.length,_,β',env1,_,_,?_,hst',hok',hk1⟩;have hbig:¬(n*i.size>2^24):=by rw[hisz];omega
 rw[hdl'];rw[hisz]at hbig;have hrun:(Instr.buildSlice t n (ps.map fun(i,x)=>(i,a.eval x))).run P w=.ok (.slice (some ⟨w.heap.size,0,none⟩) n n) (w.alloc (.cells out e)):=by
  simp only[Instr.buildSlice,aU,a_ ht,aG,Go.sizeOf,typeInfo,cT,hi,bg,hisz];rw[ay hbig];by_cases h0:n*sz=0
  ·have he:((Array.range (n*sz)).map fun i=>u.cells[i%u.cells.size]!)=#[]:=by rw[h0];simp
   have he':((Array.range (n*sz)).map fun i=>(#[]:Array Value)[i%(#[]:Array Value).size]!)=#[]:=by rw[h0];simp
   rw[he,<-he']at h2;rw[ah h0];simp only[bg,aG,h2,aU,newRow,ec,dw]
  ·rw[ay h0];simp only[zeroValue,typeInfo,aU,cT,hi,hzu,bg,aG,h2,newRow,ec,dw]
 simp only[execOp,hop,aU,hrun,aG,bg]
theorem CS{e:Nat}:∀(vs:List Value)(j:Nat)(cells:Array Value),(∀v∈vs,v.cells.size=e)->cells.size=(j+vs.length)*e->
 ∃out:Array Value,Instr.fill (fun i=>some (i*e,e)) cells ((vs.zipIdx j).map fun p=>(p.2,p.1))=some out/\
  out.toList=cells.toList.take (j*e)++vs.flatMap fun v=>v.cells.toList
 |[],j,cells,_,h4=>⟨cells,rfl,by simp at h4;simp[<-h4,<-Array.length_toList,bh]⟩
 |v::vs,j,cells,h1,h4=>by
  have hv:=h1 v (by simp);have hfit:j*e+e<=cells.size:=by
   rw[h4,<-Nat.succ_mul];exact cn _ (by simp)
  have hfc:=zY (place:=fun i=>some (i*e,e)) (i:=j) (rest:=(vs.zipIdx (j+1)).map fun p=>(p.2,p.1)) rfl hv hfit;have hsz:(cells.toList.take (j*e)++v.cells.toList++cells.toList.drop (j*e+e)).length=(j+1+vs.length)*e:=by
   simp[hv];rw[h4]at hfit⊢;simp only[ai]at hfit⊢;have:(j+1+vs.length)*e=(j+(vs.length+1))*e:=by congr 1;omega
   rw[this];omega
  obtain⟨out,h5,h7⟩:=CS vs (j+1) (cells.toList.take (j*e)++v.cells.toList++cells.toList.drop (j*e+e)).toArray
   (fun u hu=>h1 u (by simp[hu])) (by simpa using hsz)
  refine⟨out,by rw[fG,aZ,hfc];exact h5,?_⟩;rw[h7];have hl:(cells.toList.take (j*e)++v.cells.toList).length=(j+1)*e:=by
   simp[hv,bC];omega
  rw[fL hl];simp
theorem HZ{β:gI}{O:Own}{w:World}{e:Nat}:∀{xs:List AV}{vs:List Value}{cs:List AV},AV.flat e xs=some cs->AV.gO β O w xs vs->
 AV.gO β O w cs (vs.flatMap fun v=>v.cells.toList)/\(∀v∈vs,v.cells.size=e)/\∀u∈vs.flatMap (fun v=>v.cells.toList),one u=true
 |[],vs,cs,h,hv=>by
  simp only[AV.flat,aQ]at h;simp only[AV.gO]at hv;subst h;subst hv;simp[AV.gO]
 |x::xs,vs,cs,h,hv=>by
  simp only[AV.gO]at hv;obtain⟨v,r,rfl,hv,hr⟩:=hv;simp only[AV.flat]at h;split at h
  ·rename_i c r' hc hr';split at h
   ·rename_i he;cases h;obtain⟨h1,h2⟩:=vq hv hc;obtain⟨h3,h4,h5⟩:=HZ hr' hr;rw[bH];refine⟨nJ h1 h3,fun u hu=>?_,fun u hu=>?_⟩
    ·rcases bw.1 hu with rfl|hu
     ·rw[<-Array.length_toList,AV.gY h1,he]
     ·exact h4 u hu
    ·rcases aM.1 hu with hu|hu
     ·exact h2 u hu
     ·exact h5 u hu
   ·cases h
  ·cases h
end
def rS(β:gI)(s:gA)(id b o:Nat):Prop:=
 match sat s id with
 |.dead=>False
 |.obj _ _=>β id=.blk b
 |.tok _ e n=>∃cap,β id=.tok (.slice (some ⟨b,0,none⟩) n cap) n/\n*e<=o
 |.ij _ _ n _=>∃cap,β id=.tok (.slice (some ⟨b,0,none⟩) n cap) n
 |.oh _ e n _=>∃cap bs,β id=.oh (.slice (some ⟨b,0,none⟩) n cap) n bs/\n*e<=o
 |.tc _ n _=>∃v bs,β id=.oh v n bs/\((∃cap,v=.slice (some ⟨b,0,none⟩) n cap/\0<cap)\/b∈bs)
 |.mp _ _ _=>False
theorem DQ{β:gI}{s:gA}{b o:Nat}:own β s b o<->∃id,rS β s id b o:=cE
theorem rS.block{β:gI}{s:gA}{id b o:Nat}(h:rS β s id b o):gw β s id b:=by
 unfold rS at h;unfold gw;cases hs:sat s id with
 |dead=>rw[hs]at h;exact h
 |obj t cs=>rw[hs]at h;exact h
 |tok t e n=>rw[hs]at h;obtain⟨cap,h1,_⟩:=h;exact⟨cap,h1⟩
 |ij t e n cs=>rw[hs]at h;exact h
 |oh t e n cs=>rw[hs]at h;obtain⟨cap,bs,h1,_⟩:=h;exact⟨_,bs,h1,.inl ⟨cap,rfl⟩⟩
 |tc e n cs=>rw[hs]at h;exact h
 |mp P k es=>rw[hs]at h;exact h.elim
theorem Kq{β:gI}{O:Own}{w:World}{x:AV}{v:Value}(hx:BK x=false)(h:AV.ok β O w x v):NX β O w x v []:=by
 cases x with
 |dp d=>cases hx
 |_=>exact⟨h,rfl⟩
theorem vH{β:gI}{O:Own}{w:World}:∀{cs:List AV}{vs rest:List Value},wC cs=true->AV.gO β O w cs vs->tD β O w cs (vs++rest) []
 |[],_,_,_,_=>by simp[tD]
 |x::xs,vs,rest,hd,h=>by
  simp only[wC,List.all_cons,bL,fF]at hd;simp only[AV.gO]at h;obtain⟨v,r,rfl,h2,h3⟩:=h;simp only[tD];exact⟨v,r++rest,[],[],by simp,rfl,Kq hd.1 h2,vH (by simpa[wC]using hd.2) h3⟩
theorem yg{β:gI}{O:Own}{w:World}:∀{cs ds:List AV}{us vs:List Value}{b1 b2:List Nat},us.length=cs.length->tD β O w cs us b1->tD β O w ds vs b2->tD β O w (cs++ds) (us++vs) (b1++b2)
 |[],ds,us,vs,b1,b2,hl,h1,h2=>by
  simp only[tD]at h1;subst h1;have:us=[]:=bU.1 hl;subst this;simpa using h2
 |x::xs,ds,us,vs,b1,b2,hl,h1,h2=>by
  simp only[tD]at h1;obtain⟨v,r,c1,c2,rfl,rfl,h3,h4⟩:=h1;simp only[cg,tD];exact⟨v,r++vs,c1,c2++b2,rfl,by simp,h3,yg (by simpa using hl) h4 h2⟩
theorem A8{β:gI}{O:Own}{w:World}:∀{cs:List AV}{us vs:List Value}{bs:List Nat},tD β O w cs us bs->us.take cs.length=vs.take cs.length->tD β O w cs vs bs
 |[],_,_,_,h,_=>by simpa[tD]using h
 |x::xs,us,vs,bs,h,he=>by
  simp only[tD]at h⊢;obtain⟨v,r,c1,c2,rfl,rfl,h3,h4⟩:=h;cases vs with
  |nil=>simp at he
  |cons y ys=>
   simp only[ai,dL,ef]at he;obtain⟨rfl,he⟩:=he;exact⟨v,ys,c1,c2,rfl,rfl,h3,A8 h4 he⟩
theorem FW{β:gI}{O:Own}{w:World}:∀{cs:List AV}{us:List Value}{bs:List Nat},tD β O w cs us bs->cs.length<=us.length
 |[],_,_,_=>by simp
 |x::xs,us,bs,h=>by
  simp only[tD]at h;obtain⟨v,r,c1,c2,rfl,rfl,_,h4⟩:=h;have:=FW h4;simp;omega
theorem Ks{β:gI}{O:Own}{w:World}:∀{n:Nat}{us:List Value},n<=us.length->tD β O w (List.replicate n .hM) us []
 |0,_,_=>by simp[tD]
 |n+1,[],h=>by simp at h
 |n+1,u::us,h=>by
  simp only[cp,tD];exact⟨u,us,[],[],rfl,rfl,⟨by simp[AV.ok],rfl⟩,Ks (by simpa using h)⟩
theorem zO{β:gI}{O:Own}{w:World}:∀{cs ds:List AV}{us:List Value}{bs:List Nat},tD β O w (cs++ds) us bs->cs.length<=us.length/\∃b1 b2,bs=b1++b2/\tD β O w cs us b1/\tD β O w ds (us.drop cs.length) b2
 |[],ds,us,bs,h=>⟨by simp,[],bs,rfl,by simp[tD],by simpa using h⟩
 |x::xs,ds,us,bs,h=>by
  simp only[cg,tD]at h;obtain⟨v,r,c1,c2,rfl,rfl,h3,h4⟩:=h;obtain⟨h5,b1,b2,rfl,h6,h7⟩:=zO h4;exact⟨by simpa using h5,c1++b1,b2,by simp,by simp only[tD];exact⟨v,r,c1,b1,rfl,rfl,h3,h6⟩,by simpa using h7⟩
theorem Ed{β:gI}{O:Own}{w:World}:∀{n:Nat}{us:List Value}{bs:List Nat},tD β O w (List.replicate n .hM) us bs->bs=[]
 |0,_,_,h=>by simpa[tD]using h
 |n+1,us,bs,h=>by
  simp only[cp,tD]at h;obtain⟨v,r,c1,c2,rfl,rfl,h3,h4⟩:=h;rw[Ed h4];simpa[NX]using h3.2
theorem St.RF{C:Ctx}{β:gI}{env:List AV}{s:gA}{a:Act}{w:World}(h:St C β env s a w){id:Nat}
 {ob:Ob} {p:Place} {c:Array Value} {t:Nat} (hpl:lF (β id) p)
 (hown:∀b o,own (gC β id p) [(id,ob)] b o->b=w.heap.size)
 (hbl:∀b,gw (gC β id p) [(id,ob)] id b->b=w.heap.size\/gw β s id b)
 (hob:∀β' F,(∀x v,AV.ok β (C.gD β s) w x v->AV.ok β' F (w.alloc (.cells c t)) x v)->β' id=p->tR β' F (w.alloc (.cells c t)) id ob):
 St C (gC β id p) env (sset s id ob) a (w.alloc (.cells c t))/\lM β s w (gC β id p) (sset s id ob) (w.alloc (.cells c t)):=by
 have m:lM β s w (gC β id p) (sset s id ob) (w.alloc (.cells c t)):=by
  refine⟨by simp,rfl,fun b o v hc _=>?_,fun b hb _=>cW hb,fun b o ho=>?_,fun i b hb=>?_,fun i=>?_⟩
  ·rw[<-hc];exact dh (cW (rL hc))
  ·rcases tX ho with ho|ho
   ·exact .inl ho
   ·exact .inr (fD (hown b o ho).symm)
  ·rcases ja hb with⟨_,hb⟩|⟨_,hb⟩
   ·exact .inl ⟨i,hb⟩
   ·rcases hbl b hb with hb|hb
    ·exact .inr (fD hb.symm)
    ·exact .inl ⟨id,hb⟩
  ·by_cases hi:i=id
   ·subst hi;simpa[gC]using hpl
   ·simp only[gC,hi,aI];exact .refl _
 refine⟨h.move m (fun i=>?_) (fun i j b hi hj=>?_),m⟩
 ·rw[iJ];by_cases hi:i=id
  ·subst hi;simp only[aO];exact hob _ _ (fun x v hx=>m.ok hx) (by simp[gC])
  ·simp only[hi,aI];exact(h.inv.obs i).uS m (by simp[gC,hi]) (fun b hb=>cW (h.inv.tE hb)) rfl
 ·rcases ja hi with⟨hi1,hi2⟩|⟨rfl,hi2⟩<;>rcases ja hj with⟨hj1,hj2⟩|⟨rfl,hj2⟩
  ·exact h.inv.inj i j b hi2 hj2
  ·rcases hbl b hj2 with hb|hb
   ·have:=h.inv.tE hi2;omega
   ·exact h.inv.inj _ _ b hi2 hb
  ·rcases hbl b hi2 with hb|hb
   ·have:=h.inv.tE hj2;omega
   ·exact h.inv.inj _ _ b hb hj2
  ·rfl
theorem G0{C:Ctx}{β:gI}{env:List AV}{s:gA}{a:Act}{w:World}(h:St C β env s a w){id t e n cap:Nat}{c:Array Value}{xs:List D}{cs:List AV}{bs:List Nat}
 (hpl:lF (β id) (.oh (.slice (some ⟨w.heap.size,0,none⟩) n cap) n bs)) (hbs:∀b∈bs,gw β s id b) (hnd:bs.Nodup)
 (hsz:c.size=cap*e) (hn:n<=cap) (hcap:cap<2^63) (h1:∀v∈c.toList,one v=true) (hx:xs.length=n)
 (hrow:∀(O':Own)(w':World),(∀b o v,w.cell? ⟨b,o,none⟩=some v->¬C.gD β s b o->w'.cell? ⟨b,o,none⟩=some v/\¬O' b o)->
  jI O' w' w.heap.size 0 (c.toList.take (n*e))->D.row O' w' w.heap.size 0 e xs)
 (hcs:cs.length=n*e)
 (hnx:∀β' F w',(∀x v,AV.ok β (C.gD β s) w x v->AV.ok β' F w' x v)->(∀b∈bs,w'.heap[b]?=w.heap[b]?)->tD β' F w' cs c.toList bs):
 ∃β',St C β' env (sset s id (.oh t e n cs)) a (w.alloc (.cells c t))/\
  AV.ok β' (C.gD β' (sset s id (.oh t e n cs))) (w.alloc (.cells c t)) (.own e id xs) (.slice (some ⟨w.heap.size,0,none⟩) n cap)/\
  β'=gC β id (.oh (.slice (some ⟨w.heap.size,0,none⟩) n cap) n bs):=by
 have hlt:∀b∈bs,b<w.heap.size:=fun b hb=>h.inv.tE (hbs b hb)
 obtain⟨h2,m⟩:=h.RF (id:=id) (ob:=.oh t e n cs) (p:=.oh (.slice (some ⟨w.heap.size,0,none⟩) n cap) n bs) (c:=c) (t:=t) hpl
  (fun b o ho=>by
   obtain⟨i,ho⟩:=ho;by_cases hi:i=id
   ·subst hi;simp only[sat,aO,gC]at ho;obtain⟨cap',bs',ho,_⟩:=ho;simp at ho;exact ho.1.1.symm
   ·simp[sat,hi]at ho)
  (fun b hb=>by
   simp only[gw,sat,aO,gC]at hb;obtain⟨v',bs',hb,hb2⟩:=hb;simp at hb;obtain⟨rfl,rfl⟩:=hb;rcases hb2 with⟨cap',hb2⟩|hb2
   ·simp at hb2;exact .inl hb2.1.symm
   ·exact .inr (hbs b hb2))
  (fun β' F hok hp=>⟨_,bs,hp,fun b hb=>by
   obtain⟨o,ho⟩:∃o,w.heap[b]?=some o:=⟨_,cK (hlt b hb)⟩;have:=h.inv.obs id;have hbo:=hbs b hb;unfold gw at hbo;rw[cW (hlt b hb)];cases hs:sat s id with
   |dead=>rw[hs]at hbo;exact hbo.elim
   |obj t' cs'=>rw[hs]at hbo this;obtain⟨b',vs,k1,k2,_⟩:=this;rw[hbo]at k1;cases k1;exact⟨vs,t',k2⟩
   |mp P k es=>rw[hs]at this;obtain⟨b',k1,_⟩:=this;rw[k1]at hpl;cases hpl
   |tok t' e' n'=>
    rw[hs]at hbo this;obtain⟨cap',hbo⟩:=hbo;obtain⟨u,k1,k2⟩:=this;rw[hbo]at k1;cases k1;rcases k2 with⟨k2,_⟩|⟨b',cap2,vs,k2,k3,_⟩
    ·cases k2
    ·cases k2;exact⟨vs,t',k3⟩
   |ij t' e' n' cs'=>
    rw[hs]at hbo this;obtain⟨cap',hbo⟩:=hbo;obtain⟨u,k1,_,k2⟩:=this;rw[hbo]at k1;cases k1;rcases k2 with⟨k2,_⟩|⟨b',cap2,vs,k2,k3,_⟩
    ·cases k2
    ·cases k2;exact⟨vs,t',k3⟩
   |oh t' e' n' cs'=>
    rw[hs]at hbo this;obtain⟨v,bs',hbo,hb2⟩:=hbo;obtain⟨u,bs2,k1,k0,_,k2⟩:=this;rw[hbo]at k1;cases k1;rcases hb2 with⟨cap',rfl⟩|hb2
    ·rcases k2 with⟨k2,_⟩|⟨b',cap2,vs,k2,k3,_⟩
     ·cases k2
     ·cases k2;exact⟨vs,t',k3⟩
    ·exact k0 b hb2
   |tc e' n' cs'=>
    rw[hs]at hbo this;obtain⟨v,bs',hbo,hb2⟩:=hbo;obtain⟨u,bs2,k1,k0,_,k2⟩:=this;rw[hbo]at k1;cases k1;rcases hb2 with⟨cap',rfl,hc0⟩|hb2
    ·rcases k2 with⟨⟨_,k2⟩,_⟩|⟨b',cap2,vs,t2,k2,k3,_⟩
     ·simp only[ct]at k2;omega
     ·cases k2;exact⟨vs,t2,k3⟩
    ·exact k0 b hb2,
   hcs,.inr ⟨w.heap.size,cap,c,rfl,dr,hsz,hn,hcap,h1,cI.2 ⟨fun hb=>Nat.lt_irrefl _ (hlt _ hb),hnd⟩,
    hnx β' F _ hok fun b hb=>cW (hlt b hb)⟩⟩)
 refine⟨_,h2,?_,rfl⟩;simp only[AV.ok,D.ok];refine⟨⟨_,cap,by rw[hx],⟨gq,hcap⟩,trivial,?_⟩,_,n,by simp[gC,Place.at],gq,fun _=>rfl⟩;right;refine⟨w.heap.size,0,rfl,hrow _ _ m.stays ?_⟩;refine uX dr (fun j v hj=>?_) (fun j hj hf=>?_) (fun v hv=>h1 v (bE hv))
 ·rw[bS]at hj;split at hj
  ·simpa using hj
  ·cases hj
 ·rcases hf with hf|hf
  ·have:=(h.inv.low _ _ hf).1;have:=h.inv.size;omega
  ·rcases tX hf with hf|hf
   ·have:=h.inv.G3 hf;omega
   ·obtain⟨i,hf⟩:=hf;by_cases hi:i=id
    ·subst hi;simp only[sat,aO,gC]at hf;obtain⟨_,_,_,hf⟩:=hf;have:(c.toList.take (n*e)).length<=n*e:=List.length_take_le _ _;omega
    ·simp[sat,hi]at hf
section
variable{P:Program}{C:Ctx}{o:Oper}{env:List AV}{s:gA}{k:List AV->gA->Prop}
theorem oC.L_{O:Own}{w:World}{sz:Nat}:∀{ds:List D}{us:List Value},oC O w sz ds us->∀v∈us,one v=true
 |[],us,h,v,hv=>by simp only[oC]at h;subst h;cases hv
 |x::xs,us,h,v,hv=>by
  simp only[oC]at h;obtain⟨p,r,rfl,_,h6,h7⟩:=h;rcases aM.1 hv with hv|hv
  ·obtain⟨i,hi⟩:=cB hv;have hlt:i<(gx x).length:=by rw[<-D.gY h6];exact(aP.1 hi).1
   exact((D.jd.1 h6).2 i _ v (aA hlt) hi).1
  ·exact oC.L_ h7 v hv
theorem E3{f:AV->AV}(hf:∀x,BK x=false->BK (f x)=false):∀{cs:List AV},wC cs=true->wC (cs.map f)=true
 |[],_=>rfl
 |x::xs,h=>by
  simp only[wC,aZ,List.all_cons,bL,fF]at h⊢;exact⟨hf x h.1,by simpa[wC]using E3 hf (cs:=xs) (by simpa[wC]using h.2)⟩
theorem Lu{ρ:Nat->Option Nat}(x:AV)(h:BK x=false):BK (x.jU ρ)=false:=by
 cases x<;>simp only[AV.jU]<;>first|rfl|(split<;>rfl)|exact h
theorem Se{d t n:Nat}{ps:Array (Nat×Operand)}(hop:o.op=.buildSlice t n ps){e sz:Nat}(ht:P.underlying t=some (.slice e))(hsz:jE P e=some sz)
 {z:List D} (hz:rf P e=some z) (hn:n*sz<=2^24) (hsz0:0<sz) {xs:List Operand} (hxs:sx n ps.toList=some xs)
 {ds:List D} (hds:AV.lu (xs.map (ev env))=some ds) (hel:∀x∈ds,(gx x).length=sz) {cs:List AV} (hcs0:AV.flat sz (xs.map (ev env))=some cs) (hnd:wC cs=true)
 (hk:C.k<=d/\(if(sat s d).jq then k (gU o.dst env (.own sz d ds)) (sset s d (.oh e sz ds.length cs))
  else k (gU o.dst (AV.ia (gJ d) env) (.own sz d ds)) (sset (ig d s) d (.oh e sz ds.length (cs.map (AV.jU (gJ d))))))):mF P C o env s k:=by
 refine .value fun β a w hst=>?_
 obtain⟨i,u,hi,hzu,hzs,h1,_⟩:=mS hz;have hisz:i.size=sz:=by obtain⟨i',h1,h2⟩:=jN hsz;rw[hi]at h1;cases h1;exact h2
 have hxs':ps.toList.map (·.1)=List.range n/\ps.toList.map (·.2)=xs:=by
  unfold sx at hxs;split at hxs
  ·cases hxs;exact⟨by assumption,rfl⟩
  ·cases hxs
 have hlen:xs.length=n:=by rw[<-hxs'.2];simp;have:=aN List.length hxs'.1;simpa using this
 obtain⟨hdl,hdv⟩:=uN hds;have hdl':ds.length=n:=by rw[hdl,aK,hlen]
 have hok:∀(i:Nat)(d:D)(v:Value),ds[i]?=some d->(xs.map a.eval)[i]?=some v->D.ok (C.gD β s) w d v:=by
  intro i d v hd hv;rw[bk]at hv;cases hx:xs[i]? with
  |none=>rw[hx]at hv;cases hv
  |some x=>
   rw[hx]at hv;cases hv;exact Dw (hst.ev x) (hdv i (ev env x) d (by rw[bk,hx];rfl) hd)
 have hall:∀ys:List Operand,AV.gO β (C.gD β s) w (ys.map (ev env)) (ys.map a.eval):=by
  intro ys;induction ys with
  |nil=>simp[AV.gO]
  |cons y ys ih=>simp only[aZ,AV.gO];exact⟨_,_,rfl,hst.ev y,ih⟩
 obtain⟨hokc,hcs,hone⟩:=HZ hcs0 (hall xs);obtain⟨out,h2,us,h3,h4⟩:=yZ (O:=C.gD β s) (w:=w) (e:=sz) ds (xs.map a.eval) 0 ((Array.range (n*sz)).map fun i=>u.cells[i%u.cells.size]!) hcs hok (by simp[hdl',hlen]) (by simp[hlen]);obtain⟨out2,g2,g4⟩:=CS (xs.map a.eval) 0 ((Array.range (n*sz)).map fun i=>u.cells[i%u.cells.size]!) hcs (by simp[hlen]);rw[h2]at g2;cases g2;simp only[en,eW,bt]at h4 g4;have hzip:((xs.map a.eval).zipIdx 0).map (fun p=>(p.2,p.1))=(ps.map fun p=>(p.1,a.eval p.2)).toList:=by
  rw[dZ];apply dB;intro j;simp only[bk,fe];have e1:=aN (·[j]?) hxs'.1;have e2:=aN (·[j]?) hxs'.2;simp only[bk]at e1 e2;cases hp:ps.toList[j]? with
  |none=>rw[hp]at e2;simp at e2;simpa using e2
  |some p=>
   rw[hp]at e1 e2;simp at e1 e2;rw[<-e2];have hj:j<n:=by
    rcases cu j n with h|h
    ·exact h
    ·rw[bz (by simpa using h)]at e1;cases e1
   rw[dm hj]at e1;cases e1;simp
 rw[hzip]at h2;have hul:=h3.length;rw[<-g4]at hokc;have hcl:cs.length=ds.length*sz:=by rw[<-AV.gY hokc,h4,hul]
 have key:∃β1 env1 s1 f,St C β1 env1 s1 a w/\sat s1 d=.dead/\k (gU o.dst env1 (.own sz d ds)) (sset s1 d (.oh e sz ds.length (cs.map f)))/\wC (cs.map f)=true/\
  (∀x v,AV.ok β (C.gD β s) w x v->AV.ok β1 (C.gD β1 s1) w (f x) v)/\∀b o,C.gD β1 s1 b o->C.gD β s b o:=by
  obtain⟨hk0,hk⟩:=hk;split at hk
  ·rename_i hd;exact⟨β,env,s,fun x=>x,hst,by cases hs:sat s d<;>simp_all[Ob.jq],by simpa using hk,by simpa using hnd,fun x v hx=>hx,fun _ _ h=>h⟩
  ·exact⟨_,_,_,AV.jU (gJ d),hst.kill d hk0,by rw[qV];simp,hk,E3 Lu hnd,fun x v hx=>uQ hx,fun _ _ h=>h.imp (fun x=>x) uz⟩
 obtain⟨β1,env1,s1,f,hst1,hd1,hk1,hnd1,hf0,hf⟩:=key;have hno:β1 d=.no:=by have:=hst1.inv.obs d;rw[hd1]at this;exact this
 have hokf:=DO hf0 hokc;obtain⟨β',hst',hok',_⟩:=G0 hst1 (id:=d) (t:=e) (e:=sz) (n:=ds.length) (cap:=ds.length) (c:=out) (xs:=ds) (cs:=cs.map f) (bs:=[]) (by rw[hno];trivial) (by simp) (by simp)
  (by rw[<-hul,<-h4];simp) (au _) (by rw[hdl'];have:n<=n*sz:=cC _ hsz0;omega)
  (by rw[h4];exact h3.L_) rfl
  (fun O' w' hm hc=>by
   rw[h4,<-hul,bh]at hc;exact h3.row (fun b o v q1 q2=>hm b o v q1 fun h=>q2 (hf b o h)) hc)
  (by simpa using hcl)
  (fun β' F w' hm _=>by
   have h5:AV.gO β' F w' (cs.map f) out.toList:=by
    rw[AV.jd]at hokf⊢;exact⟨hokf.1,fun i x v h1 h2=>hm x v (hokf.2 i x v h1 h2)⟩
   simpa using vH (rest:=[]) hnd1 h5)
 refine⟨.slice (some ⟨w.heap.size,0,none⟩) ds.length ds.length,_,β',env1,_,_,?_,hst',hok',hk1⟩;have hbig:¬(n*i.size>2^24):=by rw[hisz];omega
 rw[hdl'];rw[hisz]at hbig;have hrun:(Instr.buildSlice t n (ps.map fun(i,x)=>(i,a.eval x))).run P w=.ok (.slice (some ⟨w.heap.size,0,none⟩) n n) (w.alloc (.cells out e)):=by
  simp only[Instr.buildSlice,aU,a_ ht,aG,Go.sizeOf,typeInfo,cT,hi,bg,hisz];rw[ay hbig];by_cases h0:n*sz=0
  ·have he:((Array.range (n*sz)).map fun i=>u.cells[i%u.cells.size]!)=#[]:=by rw[h0];simp
   have he':((Array.range (n*sz)).map fun i=>(#[]:Array Value)[i%(#[]:Array Value).size]!)=#[]:=by rw[h0];simp
   rw[he,<-he']at h2;rw[ah h0];simp only[bg,aG,h2,aU,newRow,ec,dw]
  ·rw[ay h0];simp only[zeroValue,typeInfo,aU,cT,hi,hzu,bg,aG,h2,newRow,ec,dw]
 simp only[execOp,hop,aU,hrun,aG,bg]
end
theorem St.Vm{C:Ctx}{β:gI}{env:List AV}{s:gA}{a:Act}{w w':World}(h:St C β env s a w){id b:Nat}{ob:Ob}{p:Place}
 (hbl:gw β s id b) (hsize:w'.heap.size=w.heap.size) (hio:Ec w'=Ec w) (hoth:∀b',b'≠b->w'.heap[b']?=w.heap[b']?)
 (hkeep:∀o v,w.cell? ⟨b,o,none⟩=some v->¬own β s b o->w'.cell? ⟨b,o,none⟩=some v)
 (hown:∀b' o,own (gC β id p) [(id,ob)] b' o->own β s b' o)
 (hblk:∀b',gw (gC β id p) [(id,ob)] id b'->gw β s id b')
 (hpl:lF (β id) p)
 (hob:∀β' F,(∀x v,AV.ok β (C.gD β s) w x v->AV.ok β' F w' x v)->β' id=p->tR β' F w' id ob):
 St C (gC β id p) env (sset s id ob) a w'/\lM β s w (gC β id p) (sset s id ob) w':=by
 have m:lM β s w (gC β id p) (sset s id ob) w':=by
  refine⟨gq,hio,fun b' o v hc hn=>?_,fun b' _ hn=>?_,fun b' o ho=>?_,fun i b' hb=>?_,fun i=>?_⟩
  ·by_cases hbb:b'=b
   ·subst hbb;exact hkeep o v hc hn
   ·rw[<-hc];exact dh (hoth b' hbb)
  ·exact hoth b' fun e=>hn id (e▸hbl)
  ·rcases tX ho with ho|ho
   ·exact .inl ho
   ·exact .inl (hown b' o ho)
  ·rcases ja hb with⟨_,hb⟩|⟨_,hb⟩
   ·exact .inl ⟨i,hb⟩
   ·exact .inl ⟨id,hblk b' hb⟩
  ·by_cases hi:i=id
   ·subst hi;simpa[gC]using hpl
   ·simp only[gC,hi,aI];exact .refl _
 refine⟨h.move m (fun i=>?_) (fun i j b' hi hj=>?_),m⟩
 ·rw[iJ];by_cases hi:i=id
  ·subst hi;simp only[aO];exact hob _ _ (fun x v hx=>m.ok hx) (by simp[gC])
  ·simp only[hi,aI];refine(h.inv.obs i).uS m (by simp[gC,hi]) (fun b' hb=>hoth b' fun e=>hi ?_) rfl;subst e;exact h.inv.inj i id b' hb hbl
 ·rcases ja hi with⟨hi1,hi2⟩|⟨rfl,hi2⟩<;>rcases ja hj with⟨hj1,hj2⟩|⟨rfl,hj2⟩
  ·exact h.inv.inj i j b' hi2 hj2
  ·exact absurd (h.inv.inj i _ b' hi2 (hblk b' hj2)) hi1
  ·exact absurd (h.inv.inj j _ b' hj2 (hblk b' hi2)) hj1
  ·rfl
theorem Fg{β β':gI}{O O':Own}{w w':World}(hf:∀x v,AV.ok β O w x v->AV.ok β' O' w' x v):∀{xs:List AV}{vs:List Value},AV.gO β O w xs vs->AV.gO β' O' w' xs vs
 |[],_,h=>by simpa[AV.gO]using h
 |x::xs,vs,h=>by
  simp only[AV.gO]at h⊢;obtain⟨v,r,rfl,h2,h3⟩:=h;exact⟨v,r,rfl,hf _ _ h2,Fg hf h3⟩
theorem Ns{β:gI}{O:Own}{w:World}{cs:List AV}{us:List Value}{bs:List Nat}{off n:Nat}(h:tD β O w cs us bs)(hl:off+n<=cs.length):
 ∃b1 bm b2,bs=b1++(bm++b2)/\tD β O w (cs.take off) us b1/\tD β O w (cs.drop (off+n)) (us.drop (off+n)) b2:=by
 have e:cs=cs.take off++((cs.drop off).take n++cs.drop (off+n)):=by rw[<-eZ,bP,bP]
 rw[e]at h;obtain⟨h1,b1,b',rfl,h2,h3⟩:=zO h;obtain⟨h4,bm,b2,rfl,_,h6⟩:=zO h3;have l1:(cs.take off).length=off:=by simp;omega
 have l2:((cs.drop off).take n).length=n:=by simp;omega
 rw[l1,l2,eZ]at h6;exact⟨b1,bm,b2,rfl,h2,h6⟩
section
variable{P:Program}{C:Ctx}{o:Oper}{env:List AV}{s:gA}{k:List AV->gA->Prop}
theorem Mi{β:gI}{a:Act}{w:World}(hst:St C β env s a w){id e m g cap n off:Nat}{cs xs:List AV}{bs:List Nat}{vs:Array Value}{t:Nat}{news:Array Value}
 (hs:sat s id=.tc e m cs) (hb:β id=.oh (.slice (some ⟨g,0,none⟩) m cap) m bs) (hh:w.heap[g]?=some (.cells vs t (0,0)))
 (hl1:xs.length=n) (hl2:off+n<=cs.length) (hnd:wC xs=true) (hlv:off+n<=vs.size)
 (hx1:AV.gO β (C.gD β s) w xs news.toList) (hx2:∀u∈news.toList,one u=true) (hc0:0<cap:=by assumption):
 ∃β',St C β' env (sset s id (.tc e m (cs.take off++xs++cs.drop (off+n)))) a (w.setRow g (vs.toList.take off++news.toList++vs.toList.drop (off+n)).toArray):=by
 have ho:=hst.inv.obs id;rw[hs]at ho;obtain⟨u,bs',k1,k0,k3,k4⟩:=ho;rw[hb]at k1;cases k1;rcases k4 with⟨⟨_,k4⟩,_⟩|⟨g',cap',vs',t',k4,k5,k6,k7,k8,k9,_,k10,k11⟩
 ·simp only[ct]at k4;omega
 cases k4;rw[hh]at k5;cases k5;have hlx:=AV.gY hx1;obtain⟨b1,bm,b2,rfl,n1,n2⟩:=Ns (off:=off) (n:=n) k11 hl2;have hbl:gw β s id g:=by unfold gw;rw[hs];exact⟨_,_,hb,.inl ⟨cap,rfl,hc0⟩⟩
 have hsubm:∀q,q∈b1++b2->q∈b1++(bm++b2):=fun q hq=>by
  rcases aM.1 hq with h|h
  ·simp[h]
  ·simp[h]
 have hgb:∀b∈b1++b2,b≠g:=fun b hb e=>(cI.1 k10).1 (e▸hsubm b hb)
 have hh':=eF w g vs (vs.toList.take off++news.toList++vs.toList.drop (off+n)).toArray t (0,0) hh;have hOth:∀b',b'≠g->(w.setRow g (vs.toList.take off++news.toList++vs.toList.drop (off+n)).toArray).heap[b']?=w.heap[b']?:=fun b' hb'=>fJ w g b' _ (fun e=>hb' e)
 obtain⟨hst',_⟩:=hst.Vm (id:=id) (b:=g) (ob:=.tc e m (cs.take off++xs++cs.drop (off+n))) (p:=.oh (.slice (some ⟨g,0,none⟩) m cap) m (b1++b2))
  (w':=w.setRow g (vs.toList.take off++news.toList++vs.toList.drop (off+n)).toArray) hbl (by simp) (by simp[Ec]) hOth
  (fun q v hcell hn=>absurd ⟨id,by rw[hs];exact⟨_,_,hb,.inl ⟨cap,rfl,hc0⟩⟩⟩ hn)
  (fun b' q hown=>by
   obtain⟨i',hown⟩:=hown;by_cases hi':i'=id
   ·subst hi';simp only[sat,aO,gC]at hown;obtain⟨v',q',p1,p2⟩:=hown;simp only[Place.oh.injEq,eT]at p1;obtain⟨rfl,rfl⟩:=p1;refine⟨i',?_⟩;rw[hs];exact⟨_,_,hb,p2.imp (fun x=>x) (hsubm b')⟩
   ·simp[sat,hi']at hown)
  (fun b' hb'=>by
   simp only[gw,sat,aO,gC]at hb';obtain⟨v',q',p1,p2⟩:=hb';simp only[Place.oh.injEq,eT]at p1;obtain⟨rfl,rfl⟩:=p1;unfold gw;rw[hs];exact⟨_,_,hb,p2.imp (fun x=>x) (hsubm b')⟩)
  (by rw[hb];exact⟨_,_,_,rfl,au _,fun _=>rfl⟩)
  (fun β' F hok hp=>⟨_,_,hp,fun b hb=>by rw[hOth b (hgb b hb)];exact k0 b (hsubm b hb),by
   rw[<-k3];simp only[aj,aW,bK];omega,
   .inr ⟨g,cap,_,t,rfl,hh',by
    simp only[dc,aj,aW,bK,Array.length_toList]at hlx⊢;omega,k7,k8,fun v hv=>by
     simp only[aM]at hv;rcases hv with(hv|hv)|hv
     ·exact k9 v (bE hv)
     ·exact hx2 v hv
     ·exact k9 v (cA hv),hc0,by
    have h1:=cI.1 k10;refine cI.2 ⟨fun h=>h1.1 (hsubm g h),?_⟩;have h2:=dA.1 h1.2;have h3:=dA.1 h2.2.1;exact dA.2 ⟨h2.1,h3.2.1,fun x hx y hy=>h2.2.2 x hx y (cV _ hy)⟩,by
    have e1:=tD.imp (f:=fun x=>x) (xQ hok) (fun b hb=>hOth b (hgb b (by simp[hb]))) n1;have e2:=tD.imp (f:=fun x=>x) (xQ hok) (fun b hb=>hOth b (hgb b (by simp[hb]))) n2;rw[List.map_id']at e1 e2;have e3:tD β' F (w.setRow g (vs.toList.take off++news.toList++vs.toList.drop (off+n)).toArray) xs (news.toList++vs.toList.drop (off+n)) []:=
     vH hnd (Fg hok hx1)
    have lt:(cs.take off).length=off:=by simp;omega
    have e4:=A8 (vs:=vs.toList.take off) e1 (by rw[lt,List.take_take,Nat.min_self]);have e5:=yg (us:=vs.toList.take off) (by rw[lt,aW,Array.length_toList];omega) e4 (yg (us:=news.toList) (b1:=[]) (by rw[hlx]) (A8 e3 (by rw[<-hlx,fL];rw[bh];rfl)) e2);simpa[aL]using e5⟩⟩)
 exact⟨_,hst'⟩
end
section
variable{P:Program}{C:Ctx}{o:Oper}{env:List AV}{s:gA}{k:List AV->gA->Prop}
theorem O3{t n:Nat}{p x:Operand}(hop:o.op=.store t p x)(hn:jE P t=some n)
 (hk:DY n (ev env p) (ev env x) s fun s=>k (gU o.dst env .hM) s):mF P C o env s k:=by
 refine .skip fun β a w hst=>?_
 obtain⟨i,hi,hin⟩:∃i,P.info? t=some i/\i.size=n:=by
  unfold jE at hn;cases hq:P.info? t with
  |none=>simp[hq]at hn
  |some i=>exact⟨i,rfl,by simpa[hq]using hn⟩
 have hp:=hst.ev p;unfold DY at hk;split at hk
 ·rename_i id off hpe;rw[hpe]at hp;simp only[AV.ok]at hp;obtain⟨b,hb,hv⟩:=hp;have ho:=hst.inv.obs id;split at hk
  ·rename_i t' cs hs;split at hk
   ·rename_i xs hxs;obtain⟨hl1,hl2,hk⟩:=hk;obtain⟨hx1,hx2⟩:=vq (hst.ev x) hxs;rw[hs]at ho;obtain⟨b',vs,hb',hh,h1,h2⟩:=ho;rw[hb]at hb';cases hb';obtain⟨pre,rest,hvs,h2⟩:=h2;have hl:=AV.gY h2;have hlv2:off+n<=vs.size:=by have:=aN List.length hvs;simp at this;omega
    have hlx:=AV.gY hx1;have hlv:(a.eval x).cells.size=n:=by rw[<-hl1,<-hlx];simp
    have hrun:=eG P b off t' (a.eval x).cells.toList 0 vs w hh (by simp;omega) (fun v hv=>uU (hx2 v hv));simp only[cZ,Array.length_toList,hlv]at hrun;refine⟨_,β,env,_,?_,hst.MI (cs':=cs.take off++xs++cs.drop (off+n)) (vs':=(vs.toList.take off++(a.eval x).cells.toList++vs.toList.drop (off+n)).toArray) hs hb hh ?_ ?_,hk⟩
    ·simp[execOp,hop,Instr.storeAt,hv,Instr.sureAddr,storeVar,Go.sizeOf,typeInfo,hi,hin,hlv,hrun]
    ·intro v hv';simp only[aM]at hv';rcases hv' with(hv'|hv')|hv'
     ·exact h1 v (bE hv')
     ·exact hx2 v hv'
     ·exact h1 v (cA hv')
    ·refine⟨pre.take off++(a.eval x).cells.toList++pre.drop (off+n),rest,?_,nJ (nJ (xh off h2) hx1) (xe _ h2)⟩;simp only[hvs];rw[cN gq,cq gq];simp
   ·exact hk.elim
  ·exact hk.elim
 ·rename_i id kk off hpe;rw[hpe]at hp;split at hk
  ·rename_i t' e' m cs hs;split at hk
   ·rename_i d hd;obtain⟨rfl,hl1,hl2,hk⟩:=hk;have hx:=xJ (Dw (hst.ev x) hd);simp only[AV.ok]at hp;obtain⟨u,m',b,off',hb,_,hv,hpt⟩:=hp;have ho:=hst.inv.obs id;rw[hs]at ho;obtain⟨u',hb',hcl,hg⟩:=ho;rw[hb']at hb;obtain⟨rfl,rfl⟩:=hb;obtain⟨cap,hu,had⟩:=hpt rfl;subst had;rcases hg with⟨hg,_⟩|⟨b',cap',vs,hg,hh,h3,h4,h5,h1,pre,rest,hvs,h2⟩
    ·rw[hg]at hu;cases hu
    ·rw[hu]at hg;cases hg;have hl:=D.gY h2;have hlx:=D.gY hx;have hlv:(a.eval x).cells.size=n:=by rw[<-hl1,<-hlx];simp
     have hx2:∀v∈(a.eval x).cells.toList,one v=true:=fun v hv=>by
      obtain⟨q,hq⟩:=cB hv;have hlt:q<(gx d).length:=by rw[<-hlx];exact(aP.1 hq).1
      exact((D.jd.1 hx).2 q _ v (aA hlt) hq).1
     have hlv2:off'+n<=vs.size:=by have:=aN List.length hvs;simp at this;omega
     have hrun:=eG P b off' t' (a.eval x).cells.toList 0 vs w hh (by simp;omega) (fun v hv=>uU (hx2 v hv));simp only[cZ,Array.length_toList,hlv]at hrun;obtain⟨β',h9,_⟩:=EX hst (n':=m) (cs':=cs.take off'++gx d++cs.drop (off'+n)) (vs':=(vs.toList.take off'++(a.eval x).cells.toList++vs.toList.drop (off'+n)).toArray)
      (pre:=pre.take off'++(a.eval x).cells.toList++pre.drop (off'+n)) (rest:=rest) hs (by rw[hb',hu]) hh (au _)
      (by simp only[dc,aj,aW,bK,Array.length_toList,hlv];omega) h4 h5
      (by
       intro v hv';simp only[aM]at hv';rcases hv' with(hv'|hv')|hv'
       ·exact h1 v (bE hv')
       ·exact hx2 v hv'
       ·exact h1 v (cA hv'))
      (by simp only[aj,aW,bK];omega)
      (by
       simp only[hvs];rw[cN gq,cq gq];simp)
      (qQ (qQ (zX off' h2) hx) (xK _ h2))
     refine⟨_,β',env,_,?_,h9,hk⟩;simp[execOp,hop,Instr.storeAt,hv,Instr.sureAddr,storeVar,Go.sizeOf,typeInfo,hi,hin,hlv,hrun]
   ·exact hk.elim
  ·rename_i e' m cs hs;split at hk
   ·rename_i xs hxs;obtain⟨rfl,hl1,hn0,hl2,hnd,hk⟩:=hk;obtain⟨hx1,hx2⟩:=vq (hst.ev x) hxs;simp only[AV.ok]at hp;obtain⟨u,m',b,off',hb,_,hv,hpt⟩:=hp;have ho:=hst.inv.obs id;rw[hs]at ho;obtain⟨u',bs,hb',h0,hcl,hg⟩:=ho;rw[hb']at hb;obtain⟨rfl,rfl⟩:=hb;obtain⟨cap,hu,had⟩:=hpt rfl;subst had;rcases hg with⟨_,hg,_⟩|⟨b',cap',vs,t',hg,hh,h3,h4,h5,h1,hc0,hnod,h2⟩
    ·subst hg;simp only[en]at hcl;omega
    ·rw[hu]at hg;simp only[ct,aQ,Addr.mk.injEq,eT,and_true]at hg;obtain⟨rfl,rfl⟩:=hg;have hlx:=AV.gY hx1;have hlv:(a.eval x).cells.size=n:=by rw[<-hl1,<-hlx];simp
     have hlv2:off'+n<=vs.size:=by rw[h3];exact bN hl2 (by rw[hcl];exact cn _ h4)
     have hrun:=eG P b off' t' (a.eval x).cells.toList 0 vs w hh (by simp;omega) (fun v hv=>uU (hx2 v hv));simp only[cZ,Array.length_toList,hlv]at hrun;obtain⟨β',h9⟩:=Mi hst hs (by rw[hb',hu]) hh hl1 hl2 hnd hlv2 hx1 hx2;refine⟨_,β',env,_,?_,h9,hk⟩;simp[execOp,hop,Instr.storeAt,hv,Instr.sureAddr,storeVar,Go.sizeOf,typeInfo,hi,hin,hlv,hrun]
   ·exact hk.elim
  ·exact hk.elim
 ·exact hk.elim
end
section
variable{P:Program}{C:Ctx}{o:Oper}{env:List AV}{s:gA}{k:List AV->gA->Prop}
end
theorem JY{j:Nat}{x y:Ob}:∀s:gA,sset (sset s j x) j y=sset s j y
 |[]=>by simp[sset]
 |(q,z)::r=>by
  simp only[sset];by_cases h:j=q
  ·simp[h,sset]
  ·simp only[h,aI];by_cases h2:j<q
   ·simp[h2,sset]
   ·simp only[h2,aI,sset,h];rw[JY r]
section
variable{P:Program}{C:Ctx}{o:Oper}{env:List AV}{s:gA}{k:List AV->gA->Prop}
end
section
variable{P:Program}{C:Ctx}{o:Oper}{env:List AV}{s:gA}{k:List AV->gA->Prop}
theorem fC{w:World}{t e:Nat}{i:TypeInfo}{u:Value}(ht:P.underlying t=some (.slice e))(hi:P.info? e=some i)(hz:i.zero=some u)
 {j j':IntKind} {l c:Int} (h0:0<=l) (h1:l<=c) (h2:i.bytes*c<=2^48) (h3:c<2^62):
 (Instr.makeSlice t (.int j l) (.int j' c)).run P w=.ok (.slice (some ⟨w.heap.size,0,none⟩) l.toNat c.toNat)
  (w.alloc (.cells ((Array.range (c.toNat*i.size)).map fun q=>(if c.toNat*i.size=0 then #[]else u.cells)[q%(if c.toNat*i.size=0 then #[]else u.cells).size]!) e)):=by
 have w1:IntKind.i64.wrap l=l:=by
  unfold IntKind.wrap IntKind.bits IntKind.signed;simp only[cr];have:l%2^64=l:=Int.emod_eq_of_lt h0 gq;rw[this];rw[ay];simp;omega
 have w2:IntKind.i64.wrap c=c:=by
  unfold IntKind.wrap IntKind.bits IntKind.signed;simp only[cr];have:c%2^64=c:=Int.emod_eq_of_lt gq gq;rw[this];rw[ay];simp;omega
 have hb1:¬(c<0):=by omega
 have hb2:¬(i.bytes*c>2^48):=by omega
 have hb3:¬(l<0):=by omega
 have hb4:¬(l>c):=by omega
 simp only[Instr.makeSlice,aU,a_ ht,aG,Go.asInt,asIntOf,bg,typeInfo,cT,hi,w1,w2];have hc:(decide (c<0)||decide (i.bytes*c>2^48)||decide (l<0)||decide (l>c))=false:=by rw[ee hb1,ee hb2,ee hb3,ee hb4];rfl
 rw[ay (by rw[hc];simp)];simp only[aU,run_askRoom,aG,Go.sizeOf,typeInfo,cT,hi,bg];by_cases hq:c.toNat*i.size=0
 ·simp only[ah hq,bg,aG,newRow,aU,ec,dw]
 ·simp only[ay hq,zeroValue,typeInfo,aU,cT,hi,hz,bg,aG,newRow,ec,dw]
theorem Cj{z:Array Value}{sz n:Nat}(hz:z.size=sz):((Array.range (n*sz)).map fun q=>z[q%sz]!).toList=(List.replicate n z.toList).flatten:=by
 induction n with
 |zero=>simp
 |succ n ih=>
  have e1:(n+1)*sz=n*sz+sz:=by rw[bC];omega
  rw[e1];simp only[dZ,Array.toList_range]at ih⊢;rw[List.range_add,aS,ih,List.replicate_succ',bM];congr 1;simp only[aR,bY,bf,c_];apply dn
  ·simp[hz]
  ·intro q h1 h2;simp at h1;have h3:q<z.size:=by omega
   simp only[List.getElem_map,List.getElem_range,Function.comp];have:(n*sz+q)%sz=q:=by rw[Nat.add_comm,Nat.add_mul_mod_self_right,Nat.mod_eq_of_lt h1]
   rw[this,ek z q h3];simp
theorem xg{β:gI}{O:Own}{w:World}{xs:List AV}{vs:List Value}(h:AV.gO β O w xs vs):∀n,AV.gO β O w (List.replicate n xs).flatten (List.replicate n vs).flatten
 |0=>by simp[AV.gO]
 |n+1=>by
  simp only[cp,aR];exact nJ h (xg h n)
theorem My{d t:Nat}{len cap:Operand}(hop:o.op=.makeSlice t len cap){e sz by':Nat}(ht:P.underlying t=some (.slice e))(hsz:jE P e=some sz)
 (hby:vL P e=some by') {z:List D} (hz:rf P e=some z) (hsz0:0<sz) {tok:Bool} (htok:(tok=true/\isZero len=true)\/(tok=false/\v_ len cap=true))
 {l c:Int} (hl:iN (ev env len)=some l) (hc:iN (ev env cap)=some c) (h0:0<=l) (h1:l<=c) (h2:by'*c<=2^48) (h3:c<2^62)
 (hk:tV C.k d env s fun env s _=>if tok then k (gU o.dst env (.own sz d [])) (sset s d (.tok e sz 0))
  else k (gU o.dst env (.mm sz d 0 l.toNat)) (sset s d (.obj e ((List.replicate l.toNat (z.map .d)).flatten)))):mF P C o env s k:=by
 refine .value fun β a w hst=>?_
 obtain⟨i,u,hi,hzu,hzs,hz1,rfl⟩:=mS hz;have hisz:i.size=sz:=by obtain⟨i',h1,h2⟩:=jN hsz;rw[hi]at h1;cases h1;exact h2
 have hib:i.bytes=by':=by obtain⟨i',h1,h2⟩:=sN hby;rw[hi]at h1;cases h1;exact h2
 obtain⟨jl,hvl⟩:=rK (hst.ev len) hl;obtain⟨jc,hvc⟩:=rK (hst.ev cap) hc;have hrun:=fC (P:=P) (w:=w) ht hi hzu (j:=jl) (j':=jc) h0 h1 (by rw[hib];exact h2) h3;rw[hisz]at hrun;have hcells:((Array.range (c.toNat*sz)).map fun q=>(if c.toNat*sz=0 then #[]else u.cells)[q%(if c.toNat*sz=0 then #[]else u.cells).size]!).toList=(List.replicate c.toNat u.cells.toList).flatten:=by
  by_cases hq:c.toNat*sz=0
  ·have:c.toNat=0:=by rcases Nat.mul_eq_zero.1 hq with h|h<;>omega
   simp[this]
  ·simp only[ay hq];rw[show u.cells.size=sz by omega];exact Cj gq
 generalize hA:((Array.range (c.toNat*sz)).map fun q=>(if c.toNat*sz=0 then #[]else u.cells)[q%(if c.toNat*sz=0 then #[]else u.cells).size]!)=arr at hrun hcells;have harr1:∀v∈arr.toList,one v=true:=by
  rw[hcells];intro v hv;simp only[bX,dN]at hv;obtain⟨l',⟨_,rfl⟩,hv⟩:=hv;exact hz1 v hv
 have hsize:arr.size=c.toNat*sz:=by
  have:=aN List.length hcells;simp only[Array.length_toList]at this;rw[this];simp;rw[hzs,hisz]
 obtain⟨β1,env1,s1,f,hst1,hd1,hk1,_,hf⟩:=pK hk hst;have hno:β1 d=.no:=by have:=hst1.inv.obs d;rw[hd1]at this;exact this
 have hexec:(execOp a.eval o).run P w=.ok (.value (.slice (some ⟨w.heap.size,0,none⟩) l.toNat c.toNat)) (w.alloc (.cells arr e)):=by simp only[execOp,hop,hvl,hvc,aU,hrun,aG,bg]
 rcases htok with⟨rfl,hzl⟩|⟨rfl,hsame⟩
 ·have hl0:l=0:=by
   cases len with
   |const v=>
    cases v with
    |int j n=>
     have:n=0:=by
      unfold isZero at hzl;split at hzl
      ·rename_i heq;cases heq;rfl
      ·cases hzl
     subst this;simp[Act.eval]at hvl;omega
    |_=>simp[isZero]at hzl
   |_=>simp[isZero]at hzl
  subst hl0;simp only[aO]at hk1;obtain⟨β',hst',hok'⟩:=vX hst1 (id:=d) (t:=e) (e:=sz) (n:=0) (cap:=c.toNat) (c:=arr) (xs:=[]) (by rw[hno];trivial) hsize (d_ _) gq harr1 rfl
   (fun _ _ _ _=>by simp[D.row])
  exact⟨_,_,β',env1,_,_,hexec,hst',hok',hk1⟩
 ·have hlc:l=c:=by
   unfold v_ at hsame;split at hsame
   ·simp at hsame;subst hsame;rw[hvl]at hvc;cases hvc;rfl
   ·simp at hsame;obtain⟨rfl,rfl⟩:=hsame;simp[Act.eval]at hvl hvc;omega
   ·cases hsame
  subst hlc;simp only[av,aI]at hk1;obtain⟨β',hst',m,hp⟩:=hst1.newObj (id:=d) hd1 (c:=arr) (t:=e) (cs:=(List.replicate l.toNat ((u.cells.toList.map cD).map .d)).flatten) harr1
   (by rw[hcells];exact xg (HU (zQ _ hz1)) _)
  refine⟨_,_,β',env1,_,_,hexec,hst',?_,hk1⟩;simp only[AV.ok]at hp⊢;obtain⟨b,h4,h5⟩:=hp;cases h5;exact⟨_,l.toNat,h4,⟨au _,gq⟩,rfl⟩
theorem Io{O:Own}{w:World}{b:Nat}{x:D}{v:Value}(hx:D.ok O w x v)(h1:∀cs,x≠ .agg cs):∀(n o:Nat),jI O w b o (List.replicate n v)->D.row O w b o 1 (List.replicate n x)
 |0,_,_=>by simp[D.row]
 |n+1,o,h=>by
  rw[cp,D.lY];refine⟨⟨[v],rfl,fun j u hj=>?_,?_⟩,Io hx h1 n (o+1) fun j u hj=>?_⟩
  ·cases j with
   |zero=>exact h 0 u (by simpa[cp]using hj)
   |succ j=>simp at hj
  ·cases x with
   |agg cs=>exact absurd rfl (h1 cs)
   |any=>exact⟨v,rfl,hx⟩
   |lit u=>exact⟨v,rfl,hx⟩
   |sl e nl ys=>exact⟨v,rfl,hx⟩
  ·have:=h (j+1) u (by simpa[cp]using hj);rwa [show o+(j+1)=o+1+j by omega]at this
theorem Re{v:Value}{cs:List D}:cD v≠ .agg cs:=by
 unfold cD;split
 ·intro h;cases h
 ·split<;>intro h<;>cases h
theorem OZ{t:Nat}{len cap:Operand}(hop:o.op=.makeSlice t len cap){e by':Nat}(ht:P.underlying t=some (.slice e))(hsz:jE P e=some 1)
 (hby:vL P e=some by') {zd:D} (hz:rf P e=some [zd]) (hsame:v_ len cap=true)
 {l c:Int} (hl:iN (ev env len)=some l) (hc:iN (ev env cap)=some c) (h0:0<=l) (h1:l<=c) (h2:by'*c<=2^48) (h3:c<2^62)
 (hk:k (gU o.dst env (.d (.sl 1 none (List.replicate l.toNat zd)))) s):mF P C o env s k:=by
 refine .value fun β a w hst=>?_
 obtain⟨i,u,hi,hzu,hzs,hz1,hze⟩:=mS hz;have hisz:i.size=1:=by obtain⟨i',h1,h2⟩:=jN hsz;rw[hi]at h1;cases h1;exact h2
 have hib:i.bytes=by':=by obtain⟨i',h1,h2⟩:=sN hby;rw[hi]at h1;cases h1;exact h2
 obtain⟨jl,hvl⟩:=rK (hst.ev len) hl;obtain⟨jc,hvc⟩:=rK (hst.ev cap) hc;have hrun:=fC (P:=P) (w:=w) ht hi hzu (j:=jl) (j':=jc) h0 h1 (by rw[hib];exact h2) h3;rw[hisz]at hrun;have hcells:((Array.range (c.toNat*1)).map fun q=>(if c.toNat*1=0 then #[]else u.cells)[q%(if c.toNat*1=0 then #[]else u.cells).size]!).toList=(List.replicate c.toNat u.cells.toList).flatten:=by
  by_cases hq:c.toNat*1=0
  ·have:c.toNat=0:=by omega
   simp[this]
  ·simp only[ay hq];rw[show u.cells.size=1 by omega];exact Cj gq
 generalize hA:((Array.range (c.toNat*1)).map fun q=>(if c.toNat*1=0 then #[]else u.cells)[q%(if c.toNat*1=0 then #[]else u.cells).size]!)=arr at hrun hcells;obtain⟨v0,hv0⟩:∃v0,u.cells.toList=[v0]:=by
  have:u.cells.toList.length=1:=by simp[hzs,hisz]
  match u.cells.toList,this with
  |[x],_=>exact⟨x,rfl⟩
 rw[hv0]at hcells hze hz1;have hzd:zd=cD v0:=by simpa using hze
 have hfl:(List.replicate c.toNat [v0]).flatten=List.replicate c.toNat v0:=by
  induction c.toNat with
  |zero=>rfl
  |succ n ih=>simp only[cp,aR,ih];rfl
 rw[hfl]at hcells;have hone:one v0=true:=hz1 v0 (by simp);have hlc:l=c:=by
  unfold v_ at hsame;split at hsame
  ·simp at hsame;subst hsame;rw[hvl]at hvc;cases hvc;rfl
  ·simp at hsame;obtain⟨rfl,rfl⟩:=hsame;simp[Act.eval]at hvl hvc;omega
  ·cases hsame
 subst hlc;have hexec:(execOp a.eval o).run P w=.ok (.value (.slice (some ⟨w.heap.size,0,none⟩) l.toNat l.toNat)) (w.alloc (.cells arr e)):=by simp only[execOp,hop,hvl,hvc,aU,hrun,aG,bg]
 obtain⟨g1,g2⟩:=AA hst (t:=e) (e:=1) (n:=l.toNat) (cap:=l.toNat) (c:=arr) (xs:=List.replicate l.toNat zd) (au _) gq
  (fun v hv=>by rw[hcells]at hv;rw[(dN.1 hv).2];exact hone) (by simp)
  (fun O' w' _ hcl=>by
   rw[hcells,eU,bZ (by simp)]at hcl;rw[hzd];exact Io (HJ v0 hone) (fun _=>Re) _ _ hcl)
 exact⟨_,_,β,env,s,_,hexec,g1,by simpa only[AV.ok]using g2,hk⟩
theorem EP{α:Type}{z:List α}{n:Nat}:((List.replicate n z).flatten).length=n*z.length:=by
 induction n with
 |zero=>simp
 |succ n ih=>rw[cp,aR,aj,ih,bC];omega
theorem L7{z:List D}:∀n:Nat,wC ((List.replicate n (z.map .d)).flatten)=true:=fun n=>by
 simp only[wC,cM];intro x hx;rw[bX]at hx;obtain⟨l,h1,h2⟩:=hx;rw[(dN.1 h1).2]at h2;obtain⟨d,_,rfl⟩:=aY.1 h2;rfl
theorem O0{t:Nat}{len cap:Operand}(hop:o.op=.makeSlice t len cap){e sz by' d:Nat}(ht:P.underlying t=some (.slice e))(hsz:jE P e=some sz)
 (hby:vL P e=some by') {z:List D} (hz:rf P e=some z) (hsame:v_ len cap=true)
 {l c:Int} (hl:iN (ev env len)=some l) (hc:iN (ev env cap)=some c) (h0:0<=l) (h1:l<=c) (h2:by'*c<=2^48) (h3:c<2^62) (_:o.dst=some d)
 (he0:0<sz) (h4:C.k<=d) (h5:(sat s d).jq=true)
 (hk:k (gU o.dst env (.jM sz d l.toNat)) (sset s d (.tc sz l.toNat ((List.replicate l.toNat (z.map .d)).flatten)))):mF P C o env s k:=by
 refine .value fun β a w hst=>?_
 obtain⟨i,u,hi,hzu,hzs,hz1,hze⟩:=mS hz;have hisz:i.size=sz:=by obtain⟨i',h1,h2⟩:=jN hsz;rw[hi]at h1;cases h1;exact h2
 have hib:i.bytes=by':=by obtain⟨i',h1,h2⟩:=sN hby;rw[hi]at h1;cases h1;exact h2
 obtain⟨jl,hvl⟩:=rK (hst.ev len) hl;obtain⟨jc,hvc⟩:=rK (hst.ev cap) hc;have hrun:=fC (P:=P) (w:=w) ht hi hzu (j:=jl) (j':=jc) h0 h1 (by rw[hib];exact h2) h3;rw[hisz]at hrun;have hcells:((Array.range (c.toNat*sz)).map fun q=>(if c.toNat*sz=0 then #[]else u.cells)[q%(if c.toNat*sz=0 then #[]else u.cells).size]!).toList=(List.replicate c.toNat u.cells.toList).flatten:=by
  by_cases hq:c.toNat*sz=0
  ·have:c.toNat=0:=by
    rcases Nat.mul_eq_zero.1 hq with h|h
    ·exact h
    ·omega
   simp[this]
  ·simp only[ay hq];rw[show u.cells.size=sz by rw[hzs,hisz]];exact Cj (by rw[hzs,hisz])
 generalize hA:((Array.range (c.toNat*sz)).map fun q=>(if c.toNat*sz=0 then #[]else u.cells)[q%(if c.toNat*sz=0 then #[]else u.cells).size]!)=arr at hrun hcells;have hlc:l=c:=by
  unfold v_ at hsame;split at hsame
  ·simp at hsame;subst hsame;rw[hvl]at hvc;cases hvc;rfl
  ·simp at hsame;obtain⟨rfl,rfl⟩:=hsame;simp[Act.eval]at hvl hvc;omega
  ·cases hsame
 subst hlc;have hdead:sat s d=.dead:=by cases hs:sat s d<;>rw[hs]at h5<;>first|rfl|cases h5
 have hno:β d=.no:=by have:=hst.inv.obs d;rw[hdead]at this;exact this
 have hexec:(execOp a.eval o).run P w=.ok (.value (.slice (some ⟨w.heap.size,0,none⟩) l.toNat l.toNat)) (w.alloc (.cells arr e)):=by simp only[execOp,hop,hvl,hvc,aU,hrun,aG,bg]
 have hzl:z.length=sz:=by rw[hze,aK,Array.length_toList,hzs,hisz]
 have harr:arr.size=l.toNat*sz:=by
  have:=aN List.length hcells;rw[EP]at this;rw[<-Array.length_toList,this,Array.length_toList,hzs,hisz]
 have hone:∀v∈arr.toList,one v=true:=fun v hv=>by
  rw[hcells,bX]at hv;obtain⟨q,h1,h2⟩:=hv;rw[(dN.1 h1).2]at h2;exact hz1 v h2
 have hzok:∀β' F w',AV.gO β' F w' (z.map .d) u.cells.toList:=fun β' F w'=>by
  rw[hze];have:∀vs:List Value,(∀v∈vs,one v=true)->AV.gO β' F w' ((vs.map cD).map .d) vs:=fun vs=>by
   induction vs with
   |nil=>intro _;simp[AV.gO]
   |cons v vs ih=>intro h;simp only[aZ,AV.gO];exact⟨v,vs,rfl,by simp only[AV.ok];exact HJ v (h v (by simp)),ih fun q hq=>h q (by simp[hq])⟩
  exact this _ hz1
 obtain⟨g1,_⟩:=hst.fresh (id:=d) (ob:=.tc sz l.toNat ((List.replicate l.toNat (z.map .d)).flatten)) (p:=.oh (.slice (some ⟨w.heap.size,0,none⟩) l.toNat l.toNat) l.toNat []) (c:=arr) (t:=e) (by rw[hno];trivial)
  (fun b q ho=>by
   obtain⟨i',ho⟩:=ho;by_cases hi':i'=d
   ·subst hi';simp only[sat,aO,gC]at ho;obtain⟨v',q',p1,p2⟩:=ho;simp only[Place.oh.injEq,eT]at p1;obtain⟨rfl,rfl⟩:=p1;rcases p2 with⟨_,p2,_⟩|p2
    ·simp at p2;exact p2.1.symm
    ·simp at p2
   ·simp[sat,hi']at ho)
  (fun b hb=>by
   simp only[gw,sat,aO,gC]at hb;obtain⟨v',q',p1,p2⟩:=hb;simp only[Place.oh.injEq,eT]at p1;obtain⟨rfl,rfl⟩:=p1;rcases p2 with⟨_,p2,_⟩|p2
   ·simp at p2;exact p2.1.symm
   ·simp at p2)
  (fun β' F hok _ hp=>⟨_,[],hp,fun _ h=>by simp at h,by rw[EP,aK,hzl],by
   rcases fo l.toNat with hz0|hz0
   ·exact .inl ⟨⟨_,by rw[hz0]⟩,hz0,rfl⟩
   ·refine .inr ⟨w.heap.size,l.toNat,arr,e,rfl,dr,harr,au _,gq,hone,hz0,by simp,?_⟩;have:=vH (rest:=[]) (L7 (z:=z) l.toNat) (xg (hzok β' F (w.alloc (.cells arr e))) l.toNat);rw[bf,<-hcells]at this;exact this⟩)
 refine⟨_,_,_,env,_,.jM sz d l.toNat,hexec,g1,?_,hk⟩;simp only[AV.ok];exact⟨_,l.toNat,by simp[gC,Place.at],au _,fun _=>rfl,.inr ⟨w.heap.size,l.toNat,rfl,au _,gq⟩⟩
end
theorem qT{β β':gI}{s s':gA}{i j b o:Nat}{ρ:Nat->Option Nat}(hb:β' j=β i)(hs:sat s' j=(sat s i).jU ρ):rS β' s' j b o<->rS β s i b o:=by
 unfold rS;rw[hs,hb];cases sat s i<;>simp[Ob.jU]
theorem uW{β β':gI}{s s':gA}{i j b:Nat}{ρ:Nat->Option Nat}(hb:β' j=β i)(hs:sat s' j=(sat s i).jU ρ):gw β' s' j b<->gw β s i b:=by
 unfold gw;rw[hs,hb];cases sat s i<;>simp[Ob.jU]
theorem G2{β β':gI}{s s':gA}{i b o:Nat}(hb:β' i=β i)(hs:sat s' i=sat s i):rS β' s' i b o<->rS β s i b o:=by unfold rS;rw[hs,hb]
theorem Dj{β β':gI}{s s':gA}{i b:Nat}(hb:β' i=β i)(hs:sat s' i=sat s i):gw β' s' i b<->gw β s i b:=by unfold gw;rw[hs,hb]
theorem tZ:∀{mp:List fR}{c j:Nat},mC mp c=some j->(c,j)∈mp
 |[],_,_=>fun h=>by simp[mC]at h
 |(c',j')::r,c,j=>fun h=>by
  simp only[mC]at h;split at h
  ·rename_i hc;cases h;subst hc;simp
  ·exact dg _ (tZ h)
theorem rR:∀{mp:List fR}{c j:Nat},(mp.map (·.1)).Nodup->(c,j)∈mp->mC mp c=some j
 |[],_,_=>fun _ h=>by simp at h
 |(c',j')::r,c,j=>fun hn h=>by
  simp only[aZ,cI]at hn;simp only[mC];rcases bw.1 h with h2|h2
  ·cases h2;simp
  ·have:c≠c':=fun e=>hn.1 (aY.2 ⟨(c,j),h2,e⟩)
   rw[ay this];exact rR hn.2 h2
theorem zg:∀{mp:List fR}{c j:Nat},nK mp j=some c->(c,j)∈mp
 |[],_,_=>fun h=>by simp[nK]at h
 |(c',j')::r,c,j=>fun h=>by
  simp only[nK]at h;split at h
  ·rename_i hc;cases h;subst hc;simp
  ·exact dg _ (zg h)
theorem xq{s:gA}{pr:List fR}:∀{mp:List fR},(mp.map (·.1)).Nodup->∀c,sat (mq s pr mp) c=match mC mp c with|some j=>(sat s j).jU (nK pr)|none=>.dead
 |[],_,c=>rfl
 |(c',j')::r,hn,c=>by
  simp only[aZ,cI]at hn;have ih:=xq (s:=s) (pr:=pr) hn.2 c;simp only[mq,aZ,sat,mC]at ih⊢;split
  ·rfl
  ·exact ih
theorem Ap{s':gA}{all:List fR}:∀{mp:List fR}{s:gA},(mp.map (·.2)).Nodup->∀id,
 sat (qW s s' mp all) id=match nK mp id with|some c=>(sat s' c).jU (mC all)|none=>sat s id
 |[],s,_,id=>rfl
 |(c',j')::r,s,hn,id=>by
  simp only[aZ,cI]at hn;simp only[qW,nK];rw[Ap hn.2];by_cases h:id=j'
  ·subst h;have:nK r id=none:=by
    cases hq:nK r id with
    |none=>rfl
    |some c=>exact absurd (aY.2 ⟨(c,id),zg hq,rfl⟩) hn.1
   rw[this];simp[iJ]
  ·rw[ay h];cases nK r id with
   |some c=>rfl
   |none=>simp only[iJ,ay h]
theorem uP:∀{mp:List fR}{c j:Nat},(mp.map (·.2)).Nodup->(c,j)∈mp->nK mp j=some c
 |[],_,_=>fun _ h=>by simp at h
 |(c',j')::r,c,j=>fun hn h=>by
  simp only[aZ,cI]at hn;simp only[nK];rcases bw.1 h with h2|h2
  ·cases h2;simp
  ·have:j≠j':=fun e=>hn.1 (aY.2 ⟨(c,j),h2,e⟩)
   rw[ay this];exact uP hn.2 h2
theorem Ff{β β':gI}{O:Own}{w:World}{ρ:Nat->Option Nat}(hr:∀i j,ρ i=some j->β' j=β i):∀{xs:List AV}{vs:List Value},AV.gO β O w xs vs->
 AV.gO β' O w (xs.map fun x=>x.jU ρ) vs
 |[],vs=>fun h=>by simpa[AV.gO]using h
 |x::xs,vs=>fun h=>by
  simp only[AV.gO,aZ]at h⊢;obtain⟨v,r,h1,h2,h3⟩:=h;exact⟨v,r,h1,AV.vf hr _ _ h2,Ff hr h3⟩
def Nq(E:Ending->Value->Prop)(P:Program)(f:Nat)(args:List AV)(s:gA)(k:Nat)(R:AV->gA->Prop):Prop:=
 ∀(C:Ctx)(vs:Array Value),C.s=s->C.k=k->Inv C C.β C.s C.w->AV.gO C.β (C.gD C.β C.s) C.w args vs.toList->
  Calls P f vs C.w fun e w'=>∃v x β' s',E e v/\Inv C β' s' w'/\AV.ok β' (C.gD β' s') w' x v/\R x s'
def Rj(E:Ending->Value->Prop)(P:Program)(k0 f:Nat)(args:List AV)(env:List AV)(s:gA)(K:AV->List AV->gA->Prop):Prop:=
 ∃(pr nw:List fR)(R:AV->gA->Prop),
  pr.map (·.1)=List.range pr.length/\((pr++nw).map (·.1)).Nodup/\((pr++nw).map (·.2)).Nodup/\
  (∀p∈nw,sat s p.2=.dead/\k0<=p.2)/\
  Nq E P f (args.map fun x=>x.jU (nK pr)) (mq s pr pr) pr.length R/\
  ∀x s',R x s'->K (x.jU (mC (pr++nw))) env (qW s s' (pr++nw) (pr++nw))
theorem ED{E:Ending->Value->Prop}{P:Program}{C:Ctx}{f:Nat}{args env:List AV}{s:gA}{K:AV->List AV->gA->Prop}(hk:Rj E P C.k f args env s K){β:gI}{a:Act}{w:World}
 (hst:St C β env s a w) {vs:Array Value} (hvs:AV.gO β (C.gD β s) w args vs.toList):
 Calls P f vs w fun e w'=>∃v x β' s',E e v/\St C β' env s' a w'/\AV.ok β' (C.gD β' s') w' x v/\K x env s':=by
 obtain⟨pr,nw,R,hpr,hn1,hn2,hnw,hcall,hR⟩:=hk;have hp1:(pr.map (·.1)).Nodup:=by rw[aS]at hn1;exact(dA.1 hn1).1
 have hp2:(pr.map (·.2)).Nodup:=by rw[aS]at hn2;exact(dA.1 hn2).1
 let βc:gI:=fun c=>match mC pr c with|some j=>β j|none=>.no
 have hβc:∀c j,(c,j)∈pr->βc c=β j:=fun c j h=>by show(match mC pr c with|some j=>β j|none=>.no)=_;rw[rR hp1 h]
 have hsc:∀c j,(c,j)∈pr->sat (mq s pr pr) c=(sat s j).jU (nK pr):=fun c j h=>by rw[xq hp1,rR hp1 h]
 have hscn:∀c,mC pr c=none->sat (mq s pr pr) c=.dead/\βc c=.no:=fun c h=>by rw[xq hp1,h];exact⟨rfl,by show(match mC pr c with|some j=>β j|none=>.no)=_;rw[h]⟩
 have hownc:∀b o,own βc (mq s pr pr) b o<->∃c j,(c,j)∈pr/\rS β s j b o:=fun b o=>by
  rw[DQ];constructor
  ·rintro⟨c,h⟩;cases hq:mC pr c with
   |none=>unfold rS at h;rw[(hscn c hq).1]at h;exact h.elim
   |some j=>have hm:=tZ hq;exact⟨c,j,hm,(qT (hβc c j hm) (hsc c j hm)).1 h⟩
  ·rintro⟨c,j,hm,h⟩;exact⟨c,(qT (hβc c j hm) (hsc c j hm)).2 h⟩
 have hblkc:∀c b,gw βc (mq s pr pr) c b->∃j,(c,j)∈pr/\gw β s j b:=fun c b h=>by
  cases hq:mC pr c with
  |none=>unfold gw at h;rw[(hscn c hq).1]at h;exact h.elim
  |some j=>have hm:=tZ hq;exact⟨j,hm,(uW (hβc c j hm) (hsc c j hm)).1 h⟩
 let C':Ctx:={O:=fun b o=>C.O b o\/∃id,(∀c,(c,id)∉pr)/\rS β s id b o,β:=βc,s:=mq s pr pr,w:=w,k:=pr.length};have hOown:∀b o,C.O b o->¬own β s b o:=fun b o h1 h2=>by
  have:=hst.inv.low b o h1;rcases hst.inv.qb b o h2 with h3|h3
  ·exact this.2 h3
  ·omega
 have hforb:∀b o,C'.gD βc (mq s pr pr) b o<->C.gD β s b o:=fun b o=>by
  constructor
  ·rintro((h|⟨id,_,h⟩)|h)
   ·exact .inl h
   ·exact .inr ⟨id,h⟩
   ·obtain⟨c,j,_,h⟩:=(hownc b o).1 h;exact .inr ⟨j,h⟩
  ·rintro(h|⟨id,h⟩)
   ·exact .inl (.inl h)
   ·by_cases hq:∃c,(c,id)∈pr
    ·obtain⟨c,hc⟩:=hq;exact .inr ((hownc b o).2 ⟨c,id,hc,h⟩)
    ·exact .inl (.inr ⟨id,fun c hc=>hq ⟨c,hc⟩,h⟩)
 have hforbE:C'.gD βc (mq s pr pr)=C.gD β s:=by funext b o;exact propext (hforb b o)
 have hinρ:∀i j,nK pr i=some j->βc j=β i:=fun i j h=>hβc j i (zg h)
 have hInv:Inv C' C'.β C'.s C'.w:=by
  refine⟨au _,rfl,fun _ _ _ h _=>h,fun _ _ _=>rfl,fun _ _ h=>.inl h,fun id b h=>.inl ⟨id,h⟩,fun _ _=>.refl _,?_,?_,?_⟩
  ·rintro b o (h|⟨id,hid,h⟩)
   ·refine⟨ew (hst.inv.low b o h).1 hst.inv.size,fun h2=>?_⟩;obtain⟨c,j,_,h3⟩:=(hownc b o).1 h2;exact hOown b o h ⟨j,h3⟩
   ·refine⟨hst.inv.tE h.block,fun h2=>?_⟩;obtain⟨c,j,hm,h3⟩:=(hownc b o).1 h2;have:=hst.inv.inj id j b h.block h3.block;subst this;exact hid c hm
  ·intro c;show tR βc (C'.gD βc (mq s pr pr)) w c (sat (mq s pr pr) c);rw[hforbE];cases hq:mC pr c with
   |none=>rw[(hscn c hq).1];exact(hscn c hq).2
   |some j=>
    have hm:=tZ hq;rw[hsc c j hm];have ho:=hst.inv.obs j;cases hs:sat s j with
    |dead=>rw[hs]at ho;exact(hβc c j hm).trans ho
    |obj t cs=>
     rw[hs]at ho;obtain⟨b,us,h1,h2,h3,h4⟩:=ho;exact⟨b,us,by rw[hβc c j hm,h1],h2,h3,h4.imp fun _ h=>AV.tW hinρ _ _ h⟩
    |tok t e n=>
     rw[hs]at ho;obtain⟨u,h1,h2⟩:=ho;exact⟨u,by rw[hβc c j hm,h1],h2⟩
    |ij t e n cs=>
     rw[hs]at ho;obtain⟨u,h1,h2⟩:=ho;exact⟨u,by rw[hβc c j hm,h1],h2⟩
    |oh t e n cs=>
     rw[hs]at ho;obtain⟨u,bs,h1,h0,h2⟩:=ho;refine⟨u,bs,by rw[hβc c j hm,h1],h0,?_⟩;rw[nh];exact h2.imp (fun x v=>qp fun hx=>AV.vf hinρ _ _ hx) (fun _ _=>rfl) (fun _ _ _=>rfl)
    |tc e n cs=>
     rw[hs]at ho;obtain⟨u,bs,h1,h0,h2⟩:=ho;refine⟨u,bs,by rw[hβc c j hm,h1],h0,?_⟩;rw[nh];exact h2.imp (fun x v=>qp fun hx=>AV.vf hinρ _ _ hx) (fun _ _=>rfl) (fun _ _ _ _=>rfl)
    |mp P k es=>
     rw[hs]at ho;obtain⟨b,h1,h2⟩:=ho;exact⟨b,by rw[hβc c j hm,h1],h2⟩
  ·intro i i' b h1 h2;obtain⟨j,hm,h3⟩:=hblkc i b h1;obtain⟨j',hm',h4⟩:=hblkc i' b h2;have:=hst.inv.inj j j' b h3 h4;subst this;have e1:=uP hp2 hm;have e2:=uP hp2 hm';rw[e1]at e2;cases e2;rfl
 refine(hcall C' vs rfl rfl hInv (by show AV.gO βc (C'.gD βc (mq s pr pr)) w _ _;rw[hforbE];exact Ff hinρ hvs)).mono ?_;rintro e w' ⟨v,x,β',s',hE,hi',hx,hr⟩;let βr:gI:=fun id=>match nK (pr++nw) id with|some c=>β' c|none=>β id
 have hmem:∀c j,(c,j)∈pr++nw->βr j=β' c/\sat (qW s s' (pr++nw) (pr++nw)) j=(sat s' c).jU (mC (pr++nw)):=fun c j h=>by
  have hq:=uP hn2 h;exact⟨by show(match nK (pr++nw) j with|some c=>β' c|none=>β j)=_;rw[hq],by rw[Ap hn2,hq]⟩
 have hnot:∀j,(∀c,(c,j)∉pr++nw)->βr j=β j/\sat (qW s s' (pr++nw) (pr++nw)) j=sat s j:=fun j h=>by
  have hq:nK (pr++nw) j=none:=by
   cases hq:nK (pr++nw) j with
   |none=>rfl
   |some c=>exact absurd (zg hq) (h c)
  exact⟨by show(match nK (pr++nw) j with|some c=>β' c|none=>β j)=_;rw[hq],by rw[Ap hn2,hq]⟩
 have hcase:∀j,(∃c,(c,j)∈pr++nw)\/∀c,(c,j)∉pr++nw:=fun j=>by
  by_cases h:∃c,(c,j)∈pr++nw
  ·exact .inl h
  ·exact .inr fun c hc=>h ⟨c,hc⟩
 have hblk1:∀c j b,(c,j)∈pr++nw->(gw βr (qW s s' (pr++nw) (pr++nw)) j b<->gw β' s' c b):=fun c j b h=>uW (hmem c j h).1 (hmem c j h).2
 have hown1:∀c j b o,(c,j)∈pr++nw->(rS βr (qW s s' (pr++nw) (pr++nw)) j b o<->rS β' s' c b o):=fun c j b o h=>qT (hmem c j h).1 (hmem c j h).2
 have hblk2:∀j b,(∀c,(c,j)∉pr++nw)->(gw βr (qW s s' (pr++nw) (pr++nw)) j b<->gw β s j b):=fun j b h=>Dj (hnot j h).1 (hnot j h).2
 have hown2:∀j b o,(∀c,(c,j)∉pr++nw)->(rS βr (qW s s' (pr++nw) (pr++nw)) j b o<->rS β s j b o):=fun j b o h=>G2 (hnot j h).1 (hnot j h).2
 have hpsub:∀j,(∀c,(c,j)∉pr++nw)->∀c,(c,j)∉pr:=fun j h c hc=>h c (bF _ hc)
 have hnewdead:∀c j,(c,j)∈nw->sat s j=.dead/\β j=.no:=fun c j h=>by
  have h1:=(hnw _ h).1;have:=hst.inv.obs j;rw[h1]at this;exact⟨h1,this⟩
 have m:lM β s w βr (qW s s' (pr++nw) (pr++nw)) w':=by
  refine⟨hi'.size,hi'.io,fun b o v hc hno=>hi'.keep b o v hc fun h=>?_,fun b hb hno=>hi'.sk b hb fun c h=>?_,fun b o ho=>?_,fun j b hb=>?_,fun j=>?_⟩
  ·obtain⟨c,j,_,h⟩:=(hownc b o).1 h;exact hno ⟨j,h⟩
  ·obtain⟨j,_,h⟩:=hblkc c b h;exact hno j h
  ·obtain⟨j,hj⟩:=DQ.1 ho;rcases hcase j with⟨c,hc⟩|hc
   ·rcases hi'.qb b o ⟨c,(hown1 c j b o hc).1 hj⟩with h|h
    ·obtain⟨c',j',_,h⟩:=(hownc b o).1 h;exact .inl ⟨j',h⟩
    ·exact .inr h
   ·exact .inl ⟨j,(hown2 j b o hc).1 hj⟩
  ·rcases hcase j with⟨c,hc⟩|hc
   ·rcases hi'.tH c b ((hblk1 c j b hc).1 hb)with⟨i,h⟩|h
    ·obtain⟨j',_,h⟩:=hblkc i b h;exact .inl ⟨j',h⟩
    ·exact .inr h
   ·exact .inl ⟨j,(hblk2 j b hc).1 hb⟩
  ·rcases hcase j with⟨c,hc⟩|hc
   ·rw[(hmem c j hc).1];rcases aM.1 hc with hc|hc
    ·have hlt:c<pr.length:=by
      have:c∈pr.map (·.1):=aY.2 ⟨(c,j),hc,rfl⟩;rw[hpr]at this;exact eY.1 this
     have:=hi'.pl c hlt;rwa [show C'.β c=β j from hβc c j hc]at this
    ·rw[(hnewdead c j hc).2];trivial
   ·rw[(hnot j hc).1];exact .refl _
 have hforb':∀b o,C.gD βr (qW s s' (pr++nw) (pr++nw)) b o->C'.gD β' s' b o:=fun b o h=>by
  rcases h with h|h
  ·exact .inl (.inl h)
  ·obtain⟨j,hj⟩:=DQ.1 h;rcases hcase j with⟨c,hc⟩|hc
   ·exact .inr ⟨c,(hown1 c j b o hc).1 hj⟩
   ·exact .inl (.inr ⟨j,hpsub j hc,(hown2 j b o hc).1 hj⟩)
 have hback:∀y u,AV.ok β' (C'.gD β' s') w' y u->AV.ok βr (C.gD βr (qW s s' (pr++nw) (pr++nw))) w' (y.jU (mC (pr++nw))) u:=fun y u h=>by
  have h1:=AV.vf (β':=βr) (ρ:=mC (pr++nw)) (fun i j hij=>(hmem i j (tZ hij)).1) y u h;exact AV.jH (fun b o v hc hno=>⟨hc,fun h=>hno (hforb' b o h)⟩) (fun _=>.refl _) _ _ h1
 have hbacks:∀ys us,AV.gO β' (C'.gD β' s') w' ys us->AV.gO βr (C.gD βr (qW s s' (pr++nw) (pr++nw))) w' (AV.ia (mC (pr++nw)) ys) us:=fun y u h=>by
  have h1:=AV.tW (β':=βr) (ρ:=mC (pr++nw)) (fun i j hij=>(hmem i j (tZ hij)).1) y u h;exact AV.jb (fun b o v hc hno=>⟨hc,fun h=>hno (hforb' b o h)⟩) (fun _=>.refl _) _ _ h1
 refine⟨v,_,βr,_,hE,hst.move m (fun j=>?_) (fun i j b h1 h2=>?_),hback x v hx,hR x s' hr⟩
 ·rcases hcase j with⟨c,hc⟩|hc
  ·rw[(hmem c j hc).2];have ho:=hi'.obs c;cases hs:sat s' c with
   |dead=>rw[hs]at ho;exact(hmem c j hc).1.trans ho
   |obj t cs=>
    rw[hs]at ho;obtain⟨b,us,h1,h2,h3,h4⟩:=ho;exact⟨b,us,by rw[(hmem c j hc).1,h1],h2,h3,h4.imp fun _ h=>hbacks _ _ h⟩
   |tok t e n=>
    rw[hs]at ho;obtain⟨u,h1,h2⟩:=ho;exact⟨u,by rw[(hmem c j hc).1,h1],h2⟩
   |ij t e n cs=>
    rw[hs]at ho;obtain⟨u,h1,hl,h2⟩:=ho;refine⟨u,by rw[(hmem c j hc).1,h1],hl,?_⟩;rcases h2 with h2|⟨b,cap,vs,h2,h3,h4,h5,h6,h7,pre,rest,h8,h9⟩
    ·exact .inl h2
    ·exact .inr ⟨b,cap,vs,h2,h3,h4,h5,h6,h7,pre,rest,h8,D.jb (fun b o v hc hno=>⟨hc,fun h=>hno (hforb' b o h)⟩) _ _ h9⟩
   |oh t e n cs=>
    rw[hs]at ho;obtain⟨u,bs,h1,h0,h2⟩:=ho;refine⟨u,bs,by rw[(hmem c j hc).1,h1],h0,?_⟩;rw[nh];exact h2.imp (fun x v=>qp (hback x v)) (fun _ _=>rfl) (fun _ _ _=>rfl)
   |tc e n cs=>
    rw[hs]at ho;obtain⟨u,bs,h1,h0,h2⟩:=ho;refine⟨u,bs,by rw[(hmem c j hc).1,h1],h0,?_⟩;rw[nh];exact h2.imp (fun x v=>qp (hback x v)) (fun _ _=>rfl) (fun _ _ _ _=>rfl)
   |mp P k es=>
    rw[hs]at ho;obtain⟨b,h1,h2⟩:=ho;exact⟨b,by rw[(hmem c j hc).1,h1],h2.imp rfl fun x v h=>D.jH (fun b o v hc hno=>⟨hc,fun h=>hno (hforb' b o h)⟩) _ _ h⟩
  ·rw[(hnot j hc).2];refine(hst.inv.obs j).uS m (hnot j hc).1 (fun b hb=>hi'.sk b (hst.inv.tE hb) fun c h=>?_) rfl;obtain⟨j',hm,h⟩:=hblkc c b h;have:=hst.inv.inj j j' b hb h;subst this;exact hpsub j hc c hm
 ·have key:∀c i j,(c,i)∈pr++nw->(∀c,(c,j)∉pr++nw)->gw β' s' c b->gw β s j b->False:=by
   intro c i j hc hj h3 h4;rcases hi'.tH c b h3 with⟨c',h5⟩|h5
   ·obtain⟨j',hm,h5⟩:=hblkc c' b h5;have:=hst.inv.inj j j' b h4 h5;subst this;exact hpsub j hj c' hm
   ·have:=hst.inv.tE h4;exact absurd this (Nat.not_lt.2 h5)
  rcases hcase i with⟨c,hc⟩|hc<;>rcases hcase j with⟨c',hc'⟩|hc'
  ·have:=hi'.inj c c' b ((hblk1 c i b hc).1 h1) ((hblk1 c' j b hc').1 h2);subst this;have e1:=rR hn1 hc;have e2:=rR hn1 hc';rw[e1]at e2;cases e2;rfl
  ·exact(key c i j hc hc' ((hblk1 c i b hc).1 h1) ((hblk2 j b hc').1 h2)).elim
  ·exact(key c' j i hc' hc ((hblk1 c' j b hc').1 h2) ((hblk2 i b hc).1 h1)).elim
  ·exact hst.inv.inj i j b ((hblk2 i b hc).1 h1) ((hblk2 j b hc').1 h2)
theorem Gk{P:Program}{C:Ctx}{f:Nat}{args env:List AV}{s:gA}{K:AV->List AV->gA->Prop}(hk:HP P C.k f args env s K){β:gI}{a:Act}{w:World}
 (hst:St C β env s a w) {vs:Array Value} (hvs:AV.gO β (C.gD β s) w args vs.toList):
 Calls P f vs w fun e w'=>∃v x β' s',e=.returned v/\St C β' env s' a w'/\AV.ok β' (C.gD β' s') w' x v/\K x env s':=
 ED (E:=fun e v=>e=.returned v) hk hst hvs
theorem xH{P:Program}{k0 f:Nat}{args env:List AV}{s:gA}{K:AV->List AV->gA->Prop}(h:HP P k0 f args env s K):Ax P k0 f args env s K:=fun C β a w vs hC hst hvs=>by
 subst hC;exact(Gk h hst hvs).mono fun e w' ⟨v,x,β',s',h1,h2,h3,h4⟩=>⟨v,x,β',env,s',h1,h2,h3,h4⟩
theorem Gj{P:Program}{k0 f:Nat}{args env:List AV}{s:gA}{K K':AV->List AV->gA->Prop}(h:Ax P k0 f args env s K)(hK:∀x env s,K x env s->K' x env s):
 Ax P k0 f args env s K':=fun C β a w vs hC hst hvs=>(h C β a w vs hC hst hvs).mono fun _ _ ⟨v,x,β',env',s',h1,h2,h3,h4⟩=>⟨v,x,β',env',s',h1,h2,h3,hK _ _ _ h4⟩
theorem E6{α:Type}:∀(ks:List Lit)(E:List (Lit×α)),E.Pairwise (fun p q=>p.1≠q.1)->(∀p∈E,p.1∈ks)->E.length<=ks.length
 |[],E,_,h=>by cases E with
  |nil=>simp
  |cons p r=>exact absurd (h p (by simp)) (by simp)
 |x::ks,E,hp,hs=>by
  have h1:=E6 ks (E.filter fun p=>!decide (p.1=x)) (hp.filter _) fun p hp'=>by
   have h2:=dy.1 hp';have h3:=hs p h2.1;simp only[bw]at h3;rcases h3 with h3|h3
   ·simp[h3]at h2
   ·exact h3
  have h2:∀(E:List (Lit×α)),E.Pairwise (fun p q=>p.1≠q.1)->E.length<=(E.filter fun p=>!decide (p.1=x)).length+1:=by
   intro E;induction E with
   |nil=>intro _;simp
   |cons p r ihr=>
    intro hp;rw[fq]at hp;by_cases hx:p.1=x
    ·have:r.filter (fun p=>!decide (p.1=x))=r:=List.filter_eq_self.2 fun q hq=>by
      have:=hp.1 q hq;rw[hx]at this;simpa using fun e=>this e.symm
     rw[dX];simp[hx,this]
    ·rw[dX];have:=ihr hp.2;simp[hx];omega
  have:=h2 E hp;simp only[ai];omega
theorem yL.size{O:Own}{w:World}{P:Program}{k:Nat}{es:List (Lit×D)}{E:DataW Value}{b n:Nat}(K:Maps.Keyed P k)(h1:w.ownsMap P k PG b n E)
 (h2:∀kl,match wB es kl with
  |none=>Maps.has E kl=false
  |some x=>∃v,(∀z,E.atKey kl z=.held v)/\one v=true/\D.ok O w x v):Maps.size E<=es.length:=by
 have ht:=h1.tidy K;obtain⟨es0,clock,hb,F,hn,hE⟩:=h1;obtain⟨ps,hps,hp⟩:=ht;subst hE;cases hps;rw[Maps.size_eq];have:=E6 (es.map (·.1)) _ hp fun p hp'=>?_
 ·simpa using this
 ·have:=h2 p.1;cases hm:wB es p.1 with
  |some x=>exact Fb hm
  |none=>
   rw[hm]at this;rw[Maps.has_eq,fE]at this;have h3:=this p hp';have h4:=Maps.fit_keys F p ((WideShapes.sorted_perm _).mem_iff.1 hp');obtain⟨v,hv⟩:=h4;rw[WideAt.sameKey_self (K.key hv)]at h3;exact absurd rfl h3
section
variable{P:Program}{C:Ctx}{o:Oper}{env:List AV}{s:gA}{k:List AV->gA->Prop}
end
theorem D.xh{O:Own}{w:World}{xs:List D}{vs:List Value}(h:D.gO O w xs vs)(q:Nat):D.gO O w (xs.take q) (vs.take q):=by
 rw[D.jd]at h⊢;refine⟨by simp[h.1],fun i x v hx hv=>?_⟩;rw[bS]at hx hv;split at hx
 ·rename_i hq;rw[ah hq]at hv;exact h.2 i x v hx hv
 ·cases hx
theorem Inv.U6{C:Ctx}{β:gI}{s:gA}{w:World}(h:Inv C β s w)(j:Nat)(hj:C.k<=j){β2:gI}{s2:gA}(hβ:∀i,i≠j->β2 i=β i)(hs:∀i,i≠j->sat s2 i=(sat s i).kill j)
 (hown:∀b o,own β2 s2 b o->own β s b o) (hblk:∀i b,gw β2 s2 i b->gw β s i b) (hob:tR β2 (C.gD β2 s2) w j (sat s2 j)):
 Inv C β2 s2 w/\∀{x:AV}{v:Value},AV.ok β (C.gD β s) w x v->AV.ok β2 (C.gD β2 s2) w (x.jU (gJ j)) v:=by
 have ko:∀{x:AV}{v:Value},AV.ok β (C.gD β s) w x v->AV.ok β2 (C.gD β2 s2) w (x.jU (gJ j)) v:=fun{x v} hx=>by
  have h1:AV.ok β2 (C.gD β s) w (x.jU (gJ j)) v:=AV.vf (fun i q hij=>by
   unfold gJ at hij;split at hij
   ·cases hij
   ·rename_i hne;cases hij;rw[hβ i hne]) x v hx
  exact AV.jH (fun b o v hc hn=>⟨hc,fun h=>hn (h.imp (fun x=>x) (hown b o))⟩) (fun _=>.refl _) _ _ h1
 have kos:∀{xs:List AV}{vs:List Value},AV.gO β (C.gD β s) w xs vs->AV.gO β2 (C.gD β2 s2) w (AV.ia (gJ j) xs) vs:=by
  intro xs;induction xs with
  |nil=>intro vs h;simpa[AV.ia,AV.gO]using h
  |cons x xs ih=>
   intro vs h;simp only[AV.ia,AV.gO]at h⊢;obtain⟨v,r,h1,h2,h3⟩:=h;exact⟨v,r,h1,ko h2,ih h3⟩
 have kd:∀{xs:List D}{vs:List Value},D.gO (C.gD β s) w xs vs->D.gO (C.gD β2 s2) w xs vs:=fun{xs vs} h=>
  D.jb (fun b o _ hc hn=>⟨hc,fun h=>hn (h.imp (fun x=>x) (hown b o))⟩) xs vs h
 refine⟨⟨h.size,h.io,h.keep,h.sk,fun b o ho=>h.qb b o (hown b o ho),fun id b hb=>h.tH id b (hblk id b hb),fun i hi=>?_,h.low,fun i=>?_,fun i q b hi hq=>h.inj i q b (hblk i b hi) (hblk q b hq)⟩,ko⟩
 ·rw[hβ i gq];exact h.pl i hi
 ·by_cases hi:i=j
  ·subst hi;exact hob
  ·rw[hs i hi];have ho:=h.obs i;have hb:=hβ i hi;cases hq:sat s i with
   |dead=>rw[hq]at ho;simp only[Ob.kill,tR]at ho⊢;rw[hb];exact ho
   |obj t cs=>
    rw[hq]at ho;obtain⟨b,vs,h1,h2,h0,h3⟩:=ho;exact⟨b,vs,by rw[hb];exact h1,h2,h0,h3.imp fun _ h=>kos h⟩
   |tok t e n=>
    rw[hq]at ho;obtain⟨u,h1,h2⟩:=ho;exact⟨u,by rw[hb];exact h1,h2⟩
   |ij t e n cs=>
    rw[hq]at ho;obtain⟨u,h1,hl,h2⟩:=ho;refine⟨u,by rw[hb];exact h1,hl,?_⟩;rcases h2 with h2|⟨b,cap,vs,h2,h3,h4,h5,h6,h7,pre,rest,h8,h9⟩
    ·exact .inl h2
    ·exact .inr ⟨b,cap,vs,h2,h3,h4,h5,h6,h7,pre,rest,h8,kd h9⟩
   |oh t e n cs=>
    rw[hq]at ho;obtain⟨u,bs,h1,h0,h2⟩:=ho;refine⟨u,bs,by rw[hb];exact h1,h0,?_⟩;rw[nh];exact h2.imp (fun x v=>qp ko) (fun _ _=>rfl) (fun _ _ _=>rfl)
   |tc e n cs=>
    rw[hq]at ho;obtain⟨u,bs,h1,h0,h2⟩:=ho;refine⟨u,bs,by rw[hb];exact h1,h0,?_⟩;rw[nh];exact h2.imp (fun x v=>qp ko) (fun _ _=>rfl) (fun _ _ _ _=>rfl)
   |mp P k es=>
    rw[hq]at ho;obtain⟨b,h1,h2⟩:=ho;exact⟨b,by rw[hb];exact h1,h2.imp rfl fun x v hx=>D.jH (fun b o _ hc hn=>⟨hc,fun h=>hn (h.imp (fun x=>x) (hown b o))⟩) _ _ hx⟩
theorem Inv.cut{C:Ctx}{β:gI}{s:gA}{w:World}(h:Inv C β s w){j t e n q:Nat}{cs:List D}(hj:C.k<=j)(ho:sat s j=.ij t e n cs)(hq:q<=n){v:Value}{cap:Nat}{a:Option Addr}(hv:β j=.tok (.slice a n cap) n):
 let β2:=gC β j (.tok (.slice a q cap) q);let s2:=sset (ig j s) j (.ij t e q (cs.take (q*e)))
 Inv C β2 s2 w/\∀{x:AV}{v:Value},AV.ok β (C.gD β s) w x v->AV.ok β2 (C.gD β2 s2) w (x.jU (gJ j)) v:=by
 intro β2 s2;have hsat:∀i,sat s2 i=if i=j then .ij t e q (cs.take (q*e))else(sat s i).kill j:=fun i=>by
  show sat (sset (ig j s) j _) i=_;rw[iJ];by_cases hi:i=j
  ·simp[hi]
  ·rw[ay hi,ay hi,qV,ay hi]
 have hβ:∀i,i≠j->β2 i=β i:=fun i hi=>by simp[β2,gC,hi]
 have hβj:β2 j=.tok (.slice a q cap) q:=by simp[β2,gC]
 have hown:∀b o,own β2 s2 b o->own β s b o:=fun b o ⟨i,hi⟩=>by
  rw[hsat]at hi;by_cases hij:i=j
  ·subst hij;rw[ah rfl]at hi;obtain⟨cap',hi⟩:=hi;rw[hβj]at hi;refine⟨i,?_⟩;rw[ho];simp only[Place.tok.injEq,ct]at hi;exact⟨cap,by rw[hv,hi.1.1]⟩
  ·rw[ay hij]at hi;refine⟨i,?_⟩;have hb:=hβ i hij;cases hs:sat s i<;>rw[hs]at hi<;>simp only[Ob.kill]at hi⊢<;>first|exact hi|(rw[hb]at hi;exact hi)
 have hblk:∀i b,gw β2 s2 i b->gw β s i b:=fun i b hi=>by
  unfold gw at hi⊢;rw[hsat]at hi;by_cases hij:i=j
  ·subst hij;rw[ah rfl]at hi;obtain⟨cap',hi⟩:=hi;rw[hβj]at hi;rw[ho];simp only[Place.tok.injEq,ct]at hi;exact⟨cap,by rw[hv,hi.1.1]⟩
  ·rw[ay hij]at hi;have hb:=hβ i hij;cases hs:sat s i<;>rw[hs]at hi<;>simp only[Ob.kill]at hi⊢<;>first|exact hi|(rw[hb]at hi;exact hi)
 refine h.U6 j hj hβ (fun i hi=>by rw[hsat,ay hi]) hown hblk ?_;rw[hsat,ah rfl];have h1:=h.obs j;rw[ho]at h1;obtain⟨u,g1,g2,g3⟩:=h1;rw[hv]at g1;cases g1;refine⟨_,hβj,?_,?_⟩
 ·rw[aW,g2];exact fK (cn e hq)
 ·rcases g3 with⟨g3,g4⟩|⟨b,cap',vs,g3,g4,g5,g6,g7,g8,pre,rest,g9,g10⟩
  ·left;cases g3;exact⟨by rw[Nat.le_zero.1 hq],Nat.le_zero.1 hq⟩
  ·cases g3;refine .inr ⟨b,cap,vs,rfl,g4,g5,gq,g7,g8,pre.take (q*e),pre.drop (q*e)++rest,?_,?_⟩
   ·rw[<-aL,bP];exact g9
   ·refine D.xh (D.jb (fun b o _ hc hn=>⟨hc,fun h=>hn (h.imp (fun x=>x) (hown b o))⟩) _ _ g10) _
section
variable{P:Program}{C:Ctx}{o:Oper}{env:List AV}{s:gA}{k:List AV->gA->Prop}
theorem Sn{t e0 e:Nat}{x y:Operand}(hop:o.op=.slice t x none (some y) none)(hu:P.underlying t=some (.slice e0))(hn:jE P e0=some e)
 {e' j n:Nat} (hx:ev env x=.jM e' j n) {h:Int} (hy:iN (ev env y)=some h) (hk:OW C.k e e' j n h env s (fun r env s=>k (gU o.dst env r) s) (sat s j)):mF P C o env s k:=by
 unfold OW at hk;split at hk
 case h_2=>exact hk.elim
 rename_i t' e2 m cs hs;obtain⟨rfl,rfl,rfl,h0,h1,hj,hk⟩:=hk;obtain⟨i',hi',hin⟩:=jN hn;refine .value fun β a w hst=>?_
 have hxv:=hst.ev x;rw[hx]at hxv;simp only[AV.ok]at hxv;obtain⟨u,m,hat,hnm,huv,hform⟩:=hxv;have hob:=hst.inv.obs j;rw[hs]at hob;obtain⟨u',hβ,hlen,hgro⟩:=hob;rw[hβ]at hat;obtain⟨rfl,rfl⟩:=hat;have hv:=huv rfl;obtain⟨ad,cap,hslice,hcap⟩:∃ad cap,a.eval x=.slice ad n cap/\n<=cap:=by
  rcases hform with⟨ad,h2,h3⟩|⟨b,cap,h2,h3,_⟩
  ·subst h3;exact⟨ad,0,h2,au _⟩
  ·exact⟨_,cap,h2,h3⟩
 have hmin:Ln h.toNat n=h.toNat:=by show min h.toNat n=h.toNat;omega
 rw[hmin]at hk;have hrun:=wu (P:=P) hst (lo:=none) (hi:=some y) n cap (l:=0) (h:=h) (by rfl) (by simpa[Dk]using hy) (eV _) h0 h1 hcap;have hβ':β j=.tok (.slice ad n cap) n:=by rw[hβ,<-hv,hslice]
 obtain⟨hI,hE⟩:=hst.inv.cut (v:=.slice ad n cap) hj hs (q:=h.toNat) gq hβ';refine⟨.slice ad h.toNat cap,w,_,AV.ia (gJ j) env,_,_,?_,⟨hst.defers,hI,by rw[xl];exact hst.len,fun i z hz=>?_⟩,?_,hk⟩
 ·simp only[execOp,hop,Instr.sliceAt,aU,a_ hu,aG,hslice];have hrun':=hrun;simp only[eN,aV]at hrun';simp[Instr.slice,a_ hu,hrun',Go.sizeOf,typeInfo,hi',hin,dz];cases ad with
  |none=>simp
  |some b=>
   rcases hform with⟨ad',h2,h3⟩|⟨b',cap',h2,h3,_⟩
   ·rw[hslice]at h2;cases h2;simp
   ·rw[hslice]at h2;cases h2;simp[dz]
 ·rw[vi]at hz;obtain⟨z',hz',rfl⟩:=aF.1 hz;exact hE (hst.env i z' hz')
 ·simp only[AV.ok];refine⟨.slice ad h.toNat cap,h.toNat,by simp[gC,Place.at],au _,fun _=>rfl,?_⟩;rcases hform with⟨ad',h2,h3⟩|⟨b,cap',h2,h3,h4⟩
  ·rw[hslice]at h2;cases h2;exact .inl ⟨ad,by rw[show h.toNat=0 by omega],gq⟩
  ·rw[hslice]at h2;cases h2;exact .inr ⟨b,cap,rfl,gq,h4⟩
theorem Sk{t:Nat}{x:Operand}(hop:o.op=.makeInterface t x){d:TypeDesc}(hu:P.underlying t=some d)(hd:∀ms,d≠ .interface ms)(hx:ev env x=.d (.agg []))
 (hk:k (gU o.dst env (.d (.lit (.iface t (.agg #[]))))) s):mF P C o env s k:=by
 refine .pure (x:=.d (.lit (.iface t (.agg #[])))) (fun β a w hst=>?_) hk;have h1:=hst.ev x;rw[hx]at h1;simp only[AV.ok,D.ok]at h1;obtain⟨vs,h2,h3⟩:=h1;simp only[D.gO]at h3;have h4:vs=#[]:=cG (by simpa using h3);subst h4;refine⟨.iface t (.agg #[]),?_,ve rfl⟩;simp only[execOp,hop,Instr.makeInterface,aU,a_ hu,aG,h2];cases d<;>first|rfl|exact absurd rfl (hd _)
end
section
variable{P:Program}{C:Ctx}{o:Oper}{env:List AV}{s:gA}{k:List AV->gA->Prop}
theorem EJ{f:Nat}(h:enters P f=true)(vs:Array Value)(w:World):(callFunc f vs).run P w=.ok (.enter f vs) w:=by
 unfold enters at h;split at h
 ·rename_i fn hf;simp only[bL,fF]at h;obtain⟨h1,h2⟩:=h;have h3:fn.body.isNone=false:=by cases hb:fn.body<;>simp_all
  simp only[callFunc,aU,cT,aG,hf];rw[ay (by rw[h1];simp),ay (by rw[h3];simp)];rfl
 ·cases h
theorem Gl{C:Ctx}{n:Nat}{P:Program}{f:FuncId}{args:Array Value}{w:World}{R:Ending->World->Prop}:CallsIn C.sV n P f args w R<->Calls P f args w R:=
 callsIn_wide (n:=n)
theorem Mu{c:Call}(hop:o.op=.call c){g:Operand}(hc:c.callee=.value g){f:Nat}{first cap:List AV}(hg:ev env g=.fn f first cap)(he:enters P f=true)
 (hk:Ax P C.k f (first++c.args.toList.map (ev env)++cap) env s fun x env s=>k (gU o.dst env x) s):mF P C o env s k:=by
 intro hnd Q β a w hst;have hgv:=hst.ev g;rw[hg]at hgv;simp only[AV.ok]at hgv;obtain⟨fs,cs,h1,h2,h3⟩:=hgv;have hargs:AV.gO β (C.gD β s) w (first++c.args.toList.map (ev env)++cap) (fs++c.args.map a.eval++cs).toList:=by
  simp only[Array.toList_append,dZ];exact nJ (nJ h2 (Dv hst c.args.toList)) h3
 have hrun:(execOp a.eval o).run P w=.ok (.enter f (fs++c.args.map a.eval++cs)) w:=by
  simp only[execOp,hop,resolve,hc,h1,Deferred.ofValue,aU,bg,aG,invoke];exact EJ he _ _
 refine⟨fun _ _=>trivial,?_⟩;rw[Oper.semAt_eq _ _ _ hnd,hrun,Oper.uponIn_enter];refine⟨fun h=>by simp[Ctx.sV]at h,Gl.2 ((hk C β a w _ rfl hst hargs).mono ?_)⟩;rintro e w' ⟨v,x,β',env',s',rfl,hst',hx,hk'⟩;exact⟨β',_,s',hst'.put hx o.dst,hk'⟩
theorem Hy{m:ri}(hm:lR P o=some m)(hk:oW P C.k m env s fun x env s=>k (gU o.dst env x) s):mF P C o env s k:=by
 unfold lR at hm;split at hm
 ·rename_i x hop;cases hm;exact Vd (.inl hop) hk
 ·rename_i x hop;cases hm;exact Vd (.inr hop) hk
 ·rename_i c x y hop;cases hm;simp only[oW]at hk;split at hk
  ·rename_i t ht;exact Sl hop ht hk
  ·exact hk.elim
 ·rename_i t hop;simp only[aB,aF]at hm;obtain⟨d,hd,z,hz,rfl⟩:=hm;exact Ip hop hz hk
 ·rename_i t x hop;simp only[aF]at hm;obtain⟨d,hd,rfl⟩:=hm;simp only[oW]at hk;split at hk
  ·rename_i cs hc;exact U9 hop hc hk
  ·exact hk.elim
 ·rename_i t ps hop;split at hm
  ·rename_i fs hu;simp only[aB]at hm;obtain⟨z,hz,hm⟩:=hm;split at hm
   ·rename_i hall;simp only[aF]at hm;obtain⟨qs,hq,rfl⟩:=hm;simp only[oW]at hk;split at hk
    ·rename_i cs hc;exact OY hop hu hz (fun f hf=>by simpa using cM.1 hall f hf) hq hc hk
    ·exact hk.elim
   ·cases hm
  ·rename_i n e hu;split at hm
   ·rename_i hps;simp only[aB,aF]at hm;obtain⟨q,hq,z,hz,rfl⟩:=hm;simp only[oW,od]at hk;exact Mt hop hu hz (by simpa using hps) hq hk
   ·cases hm
  ·cases hm
 ·rename_i t n ps hop;simp only[aB]at hm;obtain⟨d,hd,e,he,sz,hsz,z,hz,hm⟩:=hm;split at hm
  ·rename_i hcond;simp only[aF]at hm;obtain⟨xs,hxs,rfl⟩:=hm;simp only[oW]at hk;split at hk
   ·rename_i ds hds;exact U_ hop (mR he) hsz hz hcond.1 hcond.2 hxs hds hk.1 hk.2
   ·exact hk.elim
  ·cases hm
 ·rename_i t p hop;simp only[aB,aF]at hm;obtain⟨n,hn,ag,hg,rfl⟩:=hm;exact Si hop hn hg hk
 ·rename_i t p x hop;simp only[aF]at hm;obtain⟨n,hn,rfl⟩:=hm;exact O3 hop hn hk
 ·rename_i x hop;cases hm;simp only[oW]at hk;split at hk
  ·rename_i id off hx;exact B3 hop hx (.inl ⟨id,off,rfl⟩) hk
  ·rename_i cs hx;exact B3 hop hx (.inr (.inl ⟨cs,rfl⟩)) hk
  ·rename_i cs hx;exact B3 hop hx (.inr (.inr (.inr (.inr ⟨cs,rfl⟩)))) hk
  ·rename_i f a b hx;exact B3 hop hx (.inr (.inr (.inl ⟨f,a,b,rfl⟩))) hk
  ·rename_i id m off hx;exact B3 hop hx (.inr (.inr (.inr (.inl ⟨id,m,off,rfl⟩)))) hk
  ·exact hk.elim
 ·rename_i op t x y t' hop;split at hm
  ·cases hm;exact QN hop hk
  ·cases hm;exact QN hop hk
  ·rename_i hu;split at hm
   ·cases hm;simp only[oW]at hk;split at hk
    ·rename_i p q hx hy;exact Ms hop hu (.inl ⟨rfl,rfl⟩) hx hy hk
    ·exact hk.elim
   ·cases hm;simp only[oW]at hk;split at hk
    ·rename_i p q hx hy;exact Ms hop hu (.inr ⟨rfl,rfl⟩) hx hy hk
    ·exact hk.elim
   ·cases hm
  ·rename_i e hu;split at hm
   ·rename_i hy;split at hm
    ·cases hm;simp only[oW]at hk;split at hk
     ·rename_i b hx;exact Iq hop hu hy (.inl ⟨rfl,rfl⟩) hx hk
     ·split at hk
      ·rename_i e' xs hx;exact Fo hop hu hy (.inl ⟨rfl,rfl⟩) hx hk.1 hk.2
      ·exact hk.elim
    ·cases hm;simp only[oW]at hk;split at hk
     ·rename_i b hx;exact Iq hop hu hy (.inr ⟨rfl,rfl⟩) hx hk
     ·split at hk
      ·rename_i e' xs hx;exact Fo hop hu hy (.inr ⟨rfl,rfl⟩) hx hk.1 hk.2
      ·exact hk.elim
    ·cases hm
   ·cases hm
  ·cases hm
 ·rename_i op t x hop;cases hm;simp only[oW]at hk;split at hk
  ·rename_i b hx;exact Vf hop hx hk
  ·rename_i j n hx;exact Ve hop hx hk
  ·exact hk.elim
 ·rename_i a b x hop;split at hm
  ·rename_i j j' ha hb;cases hm;simp only[oW]at hk;split at hk
   ·rename_i j0 n hx;exact Sg hop ⟨j,ha⟩ hb hx hk
   ·exact hk.elim
  ·cases hm
 ·rename_i f first cap hop
  cases hm;exact Sj hop hk
 ·rename_i t l c hop;simp only[aB]at hm;obtain⟨d,hd,e,he,sz,hsz,by',hby,z,hz,hm⟩:=hm;split at hm
  ·rename_i hsz0;split at hm
   ·rename_i hz0;cases hm;simp only[oW]at hk;split at hk
    ·rename_i l' c' hl hc;exact My hop (mR he) hsz hby hz hsz0 (tok:=true) (.inl ⟨rfl,hz0⟩) hl hc hk.1 hk.2.1 hk.2.2.1 hk.2.2.2.1 (by simpa using hk.2.2.2.2)
    ·exact hk.elim
   ·split at hm
    ·rename_i hsame;cases hm;simp only[oW]at hk;split at hk
     ·rename_i l' c' hl hc;exact My hop (mR he) hsz hby hz hsz0 (tok:=false) (.inr ⟨rfl,hsame⟩) hl hc hk.1 hk.2.1 hk.2.2.1 hk.2.2.2.1 (by simpa using hk.2.2.2.2)
     ·exact hk.elim
    ·cases hm
  ·cases hm
 ·rename_i t x lo hi mx hop;split at hm
  ·rename_i e hu;simp only[aF]at hm;obtain⟨sz,hsz,rfl⟩:=hm;simp only[oW]at hk;split at hk
   ·rename_i e' xs hxs;cases mx with
    |none=>exact Vg hop hu hsz hxs hk.1 hk.2
    |some m=>
     obtain⟨rfl,hh,h,rfl,h1,h2,h3,h4,h5,h6⟩:=hk;exact Sm hop hu hsz hxs h1 h2 h4 h5 h6
   ·exact hk.elim
  ·rename_i n e hu;split at hm
   case isFalse=>cases hm
   rename_i hn62;simp only[aF]at hm;obtain⟨sz,hsz,rfl⟩:=hm;simp only[oW]at hk;split at hk
   ·rename_i id off hx;exact Mz hn62 hop hu hsz hx (h:=n) (by simp[Dk]) gq gq (by simpa using hk)
   ·rename_i id off h hx;split at hk
    ·rename_i h' hh;exact Mz hn62 hop hu hsz hx (h:=h') (by simpa[Dk]using hh) hk.1 hk.2.1 hk.2.2
    ·exact hk.elim
   ·exact hk.elim
  ·cases hm
 ·rename_i t p f hop;split at hm
  ·rename_i fs hu;simp only[aB]at hm;obtain⟨fd,hf,n,hn,hm⟩:=hm;split at hm
   ·cases hm
   ·rename_i h0;cases hm;simp only[oW]at hk;split at hk
    ·rename_i id off hx;exact Ir hop hu hf hn h0 (.inl ⟨id,off,hx,rfl⟩) hk
    ·rename_i cs hx;exact Ir hop hu hf hn h0 (.inr (.inl ⟨cs,hx,rfl⟩)) hk
    ·rename_i cs hx;exact Ir hop hu hf hn h0 (.inr (.inr (.inr ⟨cs,hx,rfl⟩))) hk
    ·rename_i id m off hx;exact Ir hop hu hf hn h0 (.inr (.inr (.inl ⟨id,m,off,hx,rfl⟩))) hk
    ·exact hk.elim
  ·cases hm
 ·rename_i t x i hop;split at hm
  ·rename_i e hu;simp only[aF]at hm;obtain⟨sz,hsz,rfl⟩:=hm;exact Vb hop hu hsz hk
  ·rename_i n e hu;simp only[aF]at hm;obtain⟨sz,hsz,rfl⟩:=hm;simp only[oW]at hk;split at hk
   ·rename_i j id off hj hx;exact Mw hop hu hsz hj hk.1 hk.2.1 (.inl ⟨id,off,hx,rfl⟩) hk.2.2
   ·rename_i j cs hj hx;exact Mw hop hu hsz hj hk.1 hk.2.1 (.inr ⟨cs,hx,rfl⟩) hk.2.2
   ·exact hk.elim
  ·cases hm
 ·rename_i x i hop;cases hm;simp only[oW]at hk;split at hk
  ·rename_i cs hx;exact Va hop hx hk.1 hk.2
  ·exact hk.elim
 ·rename_i c hop;split at hm
  ·rename_i f hc;split at hm
   ·rename_i he;cases hm;simp only[oW]at hk;exact Mu hop hc (f:=f) (first:=[]) (cap:=[]) (by simp[ev]) he (by simpa using hk)
   ·cases hm
  ·rename_i g hc;cases hm;simp only[oW]at hk;split at hk
   ·rename_i f first cap hg;exact Mu hop hc hg hk.1 hk.2
   ·exact hk.elim
  ·rename_i hc;split at hm
   ·rename_i e x ht ha;cases hm;simp only[aB]at ht;obtain⟨t,ht,hu⟩:=ht;have ha':c.args=#[x]:=by apply cG;simpa using ha
    simp only[oW]at hk;split at hk
    ·rename_i e' id off n hx;refine Mx hop hc ha' ht hu (n:=n) (fun β w v hv=>?_) hk;rw[hx]at hv;simp only[AV.ok]at hv;obtain⟨b,cap,_,_,hv⟩:=hv;exact⟨_,cap,hv⟩
    ·rename_i e' id n hx;refine Mx hop hc ha' ht hu (n:=n) (fun β w v hv=>?_) hk;rw[hx]at hv;simp only[AV.ok]at hv;obtain⟨u,m,_,_,_,⟨_,hv,rfl⟩|⟨b,cap,hv,_⟩⟩:=hv
     ·exact⟨_,0,hv⟩
     ·exact⟨_,cap,hv⟩
    ·split at hk
     ·rename_i e' xs hxs;refine Mx hop hc ha' ht hu (n:=xs.length) (fun β w v hv=>?_) hk;obtain⟨a,cap,hv,_⟩:=xw hv hxs;exact⟨a,cap,hv⟩
     ·exact hk.elim
   ·cases hm
  ·rename_i hc;split at hm
   ·rename_i x y t u ha hat hau;simp only[aB]at hm;obtain⟨d,hd,e,he,e2,he2,sz,hsz,by',hby,z,hz,hm⟩:=hm;split at hm
    ·rename_i hcond;cases hm;have ha':c.args=#[x,y]:=by apply cG;simpa using ha
     exact QM hop hc ha' hat hau (mR he) (mR he2) hsz hby hz hcond.1 hcond.2 hk
    ·cases hm
   ·cases hm
  ·rename_i hc;split at hm
   ·rename_i x y ha;cases hm;have ha':c.args=#[x,y]:=by apply cG;simpa using ha
    simp only[oW]at hk;split at hk
    ·rename_i j n j' n' hx hy;obtain⟨rfl,hk⟩:=hk;exact Vc hop hc ha' hx hy hk
    ·exact hk.elim
   ·cases hm
  ·cases hm
 ·cases hm;exact(show False from hk).elim
 ·rename_i t x hop;split at hm
  ·cases hm
  ·rename_i d hnd hu;cases hm;exact Sk hop hu (fun ms e=>hnd ms e) hk.1 hk.2
  ·cases hm
 ·cases hm
theorem LX{x y:Operand}{e:Nat}(hm:lR P o=some (.slc x e none (some y) none)):∃t e0,o.op=.slice t x none (some y) none/\P.underlying t=some (.slice e0)/\jE P e0=some e:=by
 unfold lR at hm;split at hm
 case h_16 t' x' lo hi mx hop=>
  split at hm
  ·rename_i e0 hu;simp only[aF,ri.slc.injEq]at hm;obtain⟨sz,hsz,rfl,rfl,rfl,rfl,rfl⟩:=hm;exact⟨_,e0,hop,hu,hsz⟩
  ·exfalso;split at hm
   ·simp only[aF]at hm;obtain⟨_,_,hm⟩:=hm;cases hm
   ·cases hm
  ·cases hm
 all_goals exfalso
 all_goals repeat(first
  |(cases hm;done)
  |(simp only[aB,aF]at hm)
  |(obtain⟨_,_,hm⟩:=hm)
  |split at hm)
theorem Fc{id t e:Nat}{xs:List Operand}(hm:lR P o=some (.mW id t e xs)):∃t' n ps,o.op=.buildSlice t' n ps:=by
 unfold lR at hm;split at hm
 case h_7 t' n ps hop=>exact⟨_,_,_,hop⟩
 all_goals exfalso
 all_goals repeat(first
  |(cases hm;done)
  |(simp only[aB,aF]at hm)
  |(obtain⟨_,_,hm⟩:=hm)
  |split at hm)
theorem LS{id t:Nat}{x:Operand}(hm:lR P o=some (.box id t x)):o.op=.box t x:=by
 unfold lR at hm;split at hm
 case h_5 t' x' hop=>
  simp only[aF]at hm;obtain⟨d,hd,hm⟩:=hm;cases hm;exact hop
 all_goals exfalso
 all_goals repeat(first
  |(cases hm;done)
  |(simp only[aB,aF]at hm)
  |(obtain⟨_,_,hm⟩:=hm)
  |split at hm)
theorem GQ{id t:Nat}{z:List D}(hm:lR P o=some (.alloc id t z)):o.op=.alloc t/\rf P t=some z:=by
 unfold lR at hm;split at hm
 case h_4 t' hop=>
  simp only[aB,aF]at hm;obtain⟨d,hd,z',hz,hm⟩:=hm;cases hm;exact⟨hop,hz⟩
 all_goals exfalso
 all_goals repeat(first
  |(cases hm;done)
  |(simp only[aB,aF]at hm)
  |(obtain⟨_,_,hm⟩:=hm)
  |split at hm)
theorem C3{id t e b:Nat}{z:List D}{tok:Bool}{l c:Operand}(hm:lR P o=some (.xZ id t e b z tok l c)):∃t',o.op=.makeSlice t' l c:=by
 unfold lR at hm;split at hm
 case h_15 t' l' c' hop=>
  simp only[aB]at hm;obtain⟨d,hd,e',he,sz,hsz,by',hby,z',hz,hm⟩:=hm;split at hm
  ·split at hm
   ·cases hm;exact⟨_,hop⟩
   ·split at hm
    ·cases hm;exact⟨_,hop⟩
    ·cases hm
  ·cases hm
 all_goals exfalso
 all_goals repeat(first
  |(cases hm;done)
  |(simp only[aB,aF]at hm)
  |(obtain⟨_,_,hm⟩:=hm)
  |split at hm)
theorem LR{id t e b:Nat}{x y:Operand}(hm:lR P o=some (.app id t e b x y)):∃c,o.op=.call c/\c.callee=.builtin .append:=by
 unfold lR at hm;split at hm
 case h_20 c hop=>
  refine⟨c,hop,?_⟩;split at hm
  case h_4 hc=>exact hc
  all_goals exfalso
  all_goals repeat(first
   |(cases hm;done)
   |(simp only[aB,aF]at hm)
   |(obtain⟨_,_,hm⟩:=hm)
   |split at hm)
 all_goals exfalso
 all_goals repeat(first
  |(cases hm;done)
  |(simp only[aB,aF]at hm)
  |(obtain⟨_,_,hm⟩:=hm)
  |split at hm)
theorem Ka{m:ri}(hm:lR P o=some m.erase)(hk:oW P C.k m env s fun x env s=>k (gU o.dst env x) s):mF P C o env s k:=by
 cases m with
 |Dl id d t x=>
  simp only[ri.erase]at hm;have hop:=LS hm;simp only[oW]at hk;split at hk
  ·rename_i cs hc;exact Sc hop hc hk
  ·exact hk.elim
 |uV id d t z=>
  simp only[ri.erase]at hm;obtain⟨hop,hz⟩:=GQ hm;simp only[oW]at hk;exact Ip hop hz hk
 |zl id t e b z tok l c=>
  simp only[ri.erase]at hm;obtain⟨t',hop⟩:=C3 hm;unfold lR at hm;rw[hop]at hm;simp only[aB]at hm;obtain⟨d,hd,e',he,sz,hsz,by',hby,z',hz,hm⟩:=hm;simp only[oW]at hk;split at hk
  case h_2=>exact hk.elim
  rename_i l' c' hl hc;obtain⟨rfl,he0,h0,h1,h2,h3,h4,h5,hk⟩:=hk;split at hm
  ·split at hm
   ·cases hm
   ·split at hm
    ·rename_i hsame;cases hm;exact O0 hop (mR he) hsz hby hz hsame hl hc h0 h1 h2 h3 hd he0 h4 h5 hk
    ·cases hm
  ·cases hm
 |ye id t e b z tok l c=>
  simp only[ri.erase]at hm;obtain⟨t',hop⟩:=C3 hm;unfold lR at hm;rw[hop]at hm;simp only[aB]at hm;obtain⟨d,hd,e',he,sz,hsz,by',hby,z',hz,hm⟩:=hm;simp only[oW]at hk;split at hk
  case h_2=>exact hk.elim
  rename_i l' c' zd hl hc;obtain⟨rfl,rfl,h0,h1,h2,h3,hk⟩:=hk;split at hm
  ·split at hm
   ·cases hm
   ·split at hm
    ·rename_i hsame;cases hm;exact OZ hop (mR he) hsz hby hz hsame hl hc h0 h1 h2 h3 hk
    ·cases hm
  ·cases hm
 |wN id t e xs=>
  simp only[ri.erase]at hm;obtain⟨t',n,ps,hop⟩:=Fc hm;unfold lR at hm;rw[hop]at hm;simp only[aB]at hm;obtain⟨d,hd,e',he,sz,hsz,z,hz,hm⟩:=hm;split at hm
  ·rename_i hcond;simp only[aF,ri.mW.injEq]at hm;obtain⟨ys,hxs,rfl,rfl,rfl,rfl⟩:=hm;simp only[oW]at hk;split at hk
   ·rename_i ds hds;exact Sd hop (mR he) hsz hz hcond.1 hcond.2 hxs hds hk.1 hk.2
   ·exact hk.elim
  ·cases hm
 |Cq id t e xs=>
  simp only[ri.erase]at hm;obtain⟨t',n,ps,hop⟩:=Fc hm;unfold lR at hm;rw[hop]at hm;simp only[aB]at hm;obtain⟨d,hd,e',he,sz,hsz,z,hz,hm⟩:=hm;split at hm
  ·rename_i hcond;simp only[aF,ri.mW.injEq]at hm;obtain⟨ys,hxs,rfl,rfl,rfl,rfl⟩:=hm;simp only[oW,KF]at hk;split at hk
   ·rename_i ds cs hds hcs;exact Se hop (mR he) hsz hz hcond.1 hcond.2 hxs hds hk.1 hcs hk.2.1 hk.2.2
   ·exact hk.elim
  ·cases hm
 |AP id t e b x y=>
  simp only[ri.erase]at hm;obtain⟨c,hop,hc⟩:=LR hm;unfold lR at hm;rw[hop]at hm;simp only[hc]at hm;split at hm
  ·rename_i x y t u ha hat hau;simp only[aB]at hm;obtain⟨d,hd,e,he,e2,he2,sz,hsz,by',hby,z,hz,hm⟩:=hm;split at hm
   ·rename_i hcond;cases hm;have ha':c.args=#[x,y]:=by apply cG;simpa using ha
    exact Sb hop hc ha' hat hau (mR he) (mR he2) hsz hby hz hcond.1 hcond.2 hk
   ·cases hm
  ·cases hm
 |Fx x e y=>
  simp only[ri.erase]at hm;obtain⟨t,e0,hop,hu,hn⟩:=LX hm;simp only[oW]at hk;split at hk
  ·rename_i e' j n h hx hy;exact Sn hop hu hn hx hy hk
  ·exact hk.elim
 |_=>exact Hy hm hk
end
end kJ
