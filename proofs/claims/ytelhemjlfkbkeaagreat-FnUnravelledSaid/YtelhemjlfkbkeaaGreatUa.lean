/- A part of the proof about FnUnravelled (Al, LaAb0). -/
import Derived.Below
import Derived.CallsIn
import Derived.ControlIn
import Derived.Laws.AppendOwn
import Derived.Laws.Cells
import Derived.Laws.World
import Derived.Maps.OwnSet
import Derived.Orders
import Derived.OrdersIn
import Derived.RangeFuncIn
import Derived.RangeFuncLeaves
import Derived.RangeFuncOwn
import Derived.RangeFuncRecord
set_option linter.all false
noncomputable section
theorem gu{p:Prop}(h:p:=by omega):p:=h
abbrev aa:=@Option.bind_some
abbrev ah:=@Bool.false_eq_true
abbrev ai:=@Option.bind_eq_some_iff
abbrev aj:=@if_true
abbrev ak:=@List.set_cons_zero
abbrev aq:=@List.set_cons_succ
abbrev au:=@List.length_append
abbrev av:=@not_false_eq_true
abbrev ay:=@if_false
abbrev az:=@Int.toNat_natCast
abbrev aA:=@List.getElem?_eq_getElem
abbrev aB:=@List.getD_eq_getElem?_getD
abbrev aC:=@decide_true
abbrev aE:=@if_pos
abbrev aF:=@Go.Result.andThen_ok
abbrev aG:=@List.mem_append
abbrev aH:=@Option.map_eq_some_iff
abbrev aI:=@List.append_assoc
abbrev aJ:=@if_neg
abbrev aK:=@List.length_cons
abbrev aL:=@decide_false
abbrev aM:=@Option.some.injEq
abbrev aN:=@List.getElem?_eq_some_iff
abbrev aO:=@Nat.le_refl
abbrev aP:=@List.map_append
abbrev aQ:=@decide_eq_true_eq
abbrev aR:=@Go.Sem.run_bind
abbrev aS:=@List.length_map
abbrev aT:=@List.map_cons
abbrev aU:=@List.length_take
abbrev aV:=@List.drop_eq_getElem_cons
abbrev aW:=@and_self
abbrev aX:=@Option.map_some
abbrev aY:=@Go.run_underlying
abbrev aZ:=@List.getElem?_append_left
abbrev a_:=@Go.Sem.run_pure
abbrev bg:=@List.mem_of_mem_take
abbrev bh:=@List.append_nil
abbrev bk:=@Nat.add_mul
abbrev bl:=@List.nil_append
abbrev bp:=@List.length_eq_zero_iff
abbrev bq:=@Bool.and_eq_true
abbrev bt:=@List.mem_cons
abbrev bu:=@List.getElem_mem
abbrev bw:=@Go.Value.slice.injEq
abbrev bz:=@Bool.true_and
abbrev bA:=@List.getElem?_map
abbrev bB:=@List.length_nil
abbrev bC:=@Array.getElem?_eq_some_iff
abbrev bE:=@ne_eq
abbrev bF:=@List.mem_map
abbrev bG:=@Nat.mul_le_mul_right
abbrev bH:=@List.cons_append
abbrev bI:=@List.drop_left
abbrev bJ:=@List.nodup_cons
abbrev bK:=@List.getElem?_eq_none
abbrev bL:=@List.getElem?_take
abbrev bM:=@List.take_of_length_le
abbrev bN:=@List.getElem?_append_right
abbrev bO:=@List.mem_of_mem_drop
abbrev bP:=@Nat.le_trans
abbrev bQ:=@List.take_append_drop
abbrev bR:=@Option.isSome_none
abbrev bS:=@List.mem_singleton
abbrev bT:=@List.length_pos_iff
abbrev bU:=@List.drop_of_length_le
abbrev bV:=@List.mem_of_getElem?
abbrev bW:=@congrArg
abbrev bX:=@List.length_drop
abbrev bY:=@List.mem_range
abbrev bZ:=@List.drop_zero
abbrev b_:=@Go.heap_alloc_old
abbrev cc:=@List.all_eq_true
abbrev cg:=@List.nodup_append
abbrev cj:=@Nat.le_mul_of_pos_right
abbrev ck:=@Array.getElem?_eq_getElem
abbrev cm:=@List.flatten_cons
abbrev cn:=@List.flatMap_cons
abbrev cp:=@List.replicate_succ
abbrev cq:=@beq_self_eq_true
abbrev cr:=@decide_eq_false_iff_not
abbrev ct:=@Int.lt_irrefl
abbrev cu:=@List.mem_append_left
abbrev cw:=@beq_eq_false_iff_ne
abbrev cx:=@true_and
abbrev cy:=@Nat.zero_add
abbrev cz:=@List.size_toArray
abbrev cA:=@Array.getD_eq_getD_getElem?
abbrev cB:=@decide_eq_true
abbrev cC:=@List.getElem?_of_mem
abbrev cE:=@List.foldl_cons
abbrev cF:=@Go.World.cell?_of_block
abbrev cG:=@Nat.lt_or_ge
abbrev cH:=@Array.size_append
abbrev cI:=@Prod.mk.injEq
abbrev cJ:=@decide_eq_false
abbrev cK:=@List.take_length
abbrev cL:=@List.set_eq_take_append_cons_drop
abbrev cM:=@Nat.add_assoc
abbrev cN:=@Iff.rfl
abbrev cO:=@Array.ext'
abbrev cP:=@Nat.add_zero
abbrev cQ:=@Go.run_program
abbrev cS:=@List.not_mem_nil
abbrev cT:=@List.find?_range_eq_some
abbrev cU:=@List.take_append_of_le_length
abbrev cV:=@List.drop_append_of_le_length
abbrev cW:=@Go.heap_alloc_new
abbrev cX:=@Go.World.alloc_eq
abbrev cY:=@List.take_add_one
abbrev cZ:=@List.length_set
abbrev c_:=@List.map_congr_left
abbrev dc:=@List.flatten_append
abbrev de:=@List.map_id'
abbrev dg:=@Int.le_refl
abbrev dh:=@List.mapM_cons
abbrev di:=@List.pairwise_cons
abbrev dj:=@List.getElem?_drop
abbrev dm:=@List.mem_filter
abbrev dn:=@Go.Addr.mk.injEq
abbrev dw:=@Option.bind_eq_bind
abbrev dx:=@List.take_take
abbrev dy:=@Nat.add_sub_cancel_left
abbrev dz:=@List.map_nil
abbrev dA:=@Go.Addr.add_lit
abbrev dB:=@Go.grownCap_le_maxLen
abbrev dD:=@List.singleton_append
abbrev dF:=@List.length_singleton
abbrev dG:=@List.length_replicate
abbrev dH:=@List.length_filter_le
abbrev dI:=@bne_self_eq_false
abbrev dJ:=@List.length_range
abbrev dK:=@List.foldl_append
abbrev dL:=@List.ext_getElem?
abbrev dM:=@Nat.zero_mul
abbrev dN:=@Nat.min_self
abbrev dO:=@List.getElem_map
abbrev dP:=@List.any_eq_true
abbrev dQ:=@Array.toList_map
abbrev dR:=@Go.run_newObj
abbrev dS:=@Go.setRow_heap
abbrev dU:=@List.getD_cons_zero
abbrev dV:=@Option.map_none
abbrev dW:=@Nat.le_of_eq
abbrev dX:=@List.getElem?_set
abbrev dY:=@List.any_eq_false
abbrev dZ:=@Go.setRow_other
abbrev d_:=@Go.size_zeroCells
abbrev ef:=@Classical.choose_spec
abbrev ei:=@Nat.le_add_right
abbrev ej:=@List.mem_flatten
abbrev ek:=@Bool.and_self
abbrev en:=@List.mem_cons_of_mem
abbrev eo:=@List.getElem?_zipIdx
abbrev er:=@Option.some.inj
abbrev eu:=@List.range_succ
abbrev ew:=@List.take_succ_cons
abbrev ey:=@List.getElem?_range
abbrev ez:=@List.getD_cons_succ
abbrev eA:=@Nat.add_comm
abbrev eB:=@List.map_map
abbrev eC:=@List.take_left
abbrev eE:=@Nat.lt_of_lt_of_le
abbrev eF:=@List.mem_replicate
abbrev eG:=@List.getElem_range
abbrev eH:=@List.find?_eq_none
abbrev eI:=@Go.growslice_fits
abbrev eJ:=@Bool.not_eq_true'
abbrev eK:=@Go.grownCap_ge
abbrev eL:=@Go.run_storeCells_at
abbrev eM:=@decide_eq_decide
abbrev eN:=@List.drop_length
abbrev eO:=@List.filter_cons_of_pos
abbrev eP:=@List.filter_cons_of_neg
abbrev eR:=@beq_iff_eq
abbrev eS:=@exists_congr
abbrev eT:=@List.map_set
abbrev eU:=@List.cons.injEq
abbrev eV:=@Go.DataW.held.injEq
abbrev eW:=@List.mem_append_right
abbrev eX:=@and_true
abbrev eY:=@List.take_zero
abbrev eZ:=@List.flatMap_append
abbrev e_:=@Go.wpIn_mono
abbrev fc:=@Option.toList_some
abbrev fe:=@Option.isSome_some
abbrev ff:=@Nat.eq_zero_or_pos
abbrev fh:=@List.filter_append
abbrev fj:=@Go.grownBy_keeps_cells
abbrev fk:=@Prod.ext
abbrev fl:=@Go.run_makeSlice
abbrev fo:=@Nat.le_of_lt
abbrev fq:=@Option.bind_none
abbrev fy:=@List.zipIdx_cons
abbrev fA:=@List.isEmpty_nil
abbrev fB:=@List.flatten_nil
abbrev fC:=@List.filter_cons
abbrev fD:=@Int.natCast_zero
abbrev fE:=@Nat.one_mul
abbrev fF:=@Nat.min_eq_left
abbrev fG:=@List.take_left'
abbrev fH:=@Array.getElem?_setIfInBounds
abbrev fI:=List Int
abbrev fJ:=fI×fI
abbrev fK:=Int×Int×fI
abbrev fL:=fI×Int×Int
abbrev fM:=List fI
abbrev fN:=fI×Bool
abbrev fO:=fI×Int
abbrev fP:=List fJ
abbrev fQ:=List fK
abbrev fR:=Nat×Nat
abbrev fS:=Int×Int×Int×fI
abbrev fT:=Int×Int
abbrev fU:=Bool×Int×Int
abbrev fV:=fI×fI×fP
abbrev fW:=fI×fP
abbrev fX:=fI×fQ
abbrev fY:=fI×Int×Int×Int
abbrev fZ:=Int⊕Bool
abbrev f_:=Int×Int×fI×Int×Int
abbrev ga:=List fV
abbrev gb:=fX×Bool
abbrev gh:=List Nat
abbrev gi:=Int⊕fL
abbrev gj:=fO⊕fI
abbrev gk:=fI×fI×Int×Int
abbrev gm:=fI×ga
abbrev gn:=fM×Bool
abbrev gp:=Int×Int×Bool
abbrev gq:=Int×fI
abbrev gr:=Int×fI×fP
namespace oe
open Go
inductive D where
 |any
 |lit (v:Value)
 |sl (e:Nat) (nl:Option Bool) (xs:List D)
 |agg (cs:List D)
 deriving Inhabited
abbrev Own:=Nat->Nat->Prop
def one:Value->Bool
 |.agg _=>false
 |.tuple _=>false
 |_=>true
def jW(O:Own)(w:World)(b o:Nat)(vs:List Value):Prop:=
 ∀j v,vs[j]?=some v->w.cell? ⟨b,o+j,none⟩=some v/\¬O b (o+j)/\one v=true
def KA(n cap:Nat):Prop:=n<=cap/\cap<2^63
def LM(nl:Option Bool)(a:Option Addr)(cap:Nat):Prop:=
 match nl with
 |none=>True
 |some true=>a=none/\cap=0
 |some false=>a≠none
mutual
def D.ok(O:Own)(w:World):D->Value->Prop
 |.any,v=>one v=true
 |.lit u,v=>v=u/\one u=true
 |.agg cs,v=>∃vs:Array Value,v=.agg vs/\D.iK O w cs vs.toList
 |.sl e nl xs,v=>∃a cap,v=.slice a xs.length cap/\KA xs.length cap/\LM nl a cap/\
  (xs=[]\/∃b o,a=some ⟨b,o,none⟩/\D.row O w b o e xs)
def D.iK(O:Own)(w:World):List D->List Value->Prop
 |[],vs=>vs=[]
 |c::cs,vs=>∃v r,vs=v::r/\one v=true/\D.ok O w c v/\D.iK O w cs r
def D.row(O:Own)(w:World)(b o e:Nat):List D->Prop
 |[]=>True
 |.agg cs::xs=>(∃vs,vs.length=e/\jW O w b o vs/\D.iK O w cs vs)/\D.row O w b (o+e) e xs
 |x::xs=>(∃v,e=1/\jW O w b o [v]/\D.ok O w x v)/\D.row O w b (o+e) e xs
end
def D.IZ(O:Own)(w:World)(x:D)(vs:List Value):Prop:=
 match x with
 |.agg cs=>D.iK O w cs vs
 |x=>∃v,vs=[v]/\D.ok O w x v
theorem D.oq{O:Own}{w:World}{b o e:Nat}{x:D}{xs:List D}:D.row O w b o e (x::xs)<->
 (∃vs,vs.length=e/\jW O w b o vs/\D.IZ O w x vs)/\D.row O w b (o+e) e xs:=by
 cases x with
 |agg cs=>simp only[D.row,D.IZ]
 |any=>
  simp only[D.row,D.IZ];refine and_congr_left fun _=>⟨?_,?_⟩
  ·rintro⟨v,rfl,h1,h2⟩;exact⟨[v],rfl,h1,v,rfl,h2⟩
  ·rintro⟨vs,rfl,h1,v,rfl,h2⟩;exact⟨v,rfl,h1,h2⟩
 |lit u=>
  simp only[D.row,D.IZ];refine and_congr_left fun _=>⟨?_,?_⟩
  ·rintro⟨v,rfl,h1,h2⟩;exact⟨[v],rfl,h1,v,rfl,h2⟩
  ·rintro⟨vs,rfl,h1,v,rfl,h2⟩;exact⟨v,rfl,h1,h2⟩
 |sl e' nl ys=>
  simp only[D.row,D.IZ];refine and_congr_left fun _=>⟨?_,?_⟩
  ·rintro⟨v,rfl,h1,h2⟩;exact⟨[v],rfl,h1,v,rfl,h2⟩
  ·rintro⟨vs,rfl,h1,v,rfl,h2⟩;exact⟨v,rfl,h1,h2⟩
theorem jW.mono{O O':Own}{w w':World}{b o:Nat}{vs:List Value}
 (h:∀b o v,w.cell? ⟨b,o,none⟩=some v->¬O b o->w'.cell? ⟨b,o,none⟩=some v/\¬O' b o)
 (hc:jW O w b o vs):jW O' w' b o vs:=fun j v hj=>
 have h1:=h _ _ _ (hc j v hj).1 (hc j v hj).2.1;⟨h1.1,h1.2,(hc j v hj).2.2⟩
mutual
theorem D.ke{O O':Own}{w w':World}
 (h:∀b o v,w.cell? ⟨b,o,none⟩=some v->¬O b o->w'.cell? ⟨b,o,none⟩=some v/\¬O' b o):
 ∀(x:D)(v:Value),D.ok O w x v->D.ok O' w' x v
 |.any,v=>fun hx=>by simpa[D.ok]using hx
 |.lit u,v=>fun hx=>by simpa[D.ok]using hx
 |.agg cs,v=>fun hx=>by
  simp only[D.ok]at hx⊢;obtain⟨vs,h1,h2⟩:=hx;exact⟨vs,h1,D.kj h cs _ h2⟩
 |.sl e nl xs,v=>fun hx=>by
  simp only[D.ok]at hx⊢;obtain⟨a,cap,h1,h2,h3,h4⟩:=hx;refine⟨a,cap,h1,h2,h3,?_⟩;rcases h4 with h4|⟨b,o,h4,h5⟩
  ·exact .inl h4
  ·exact .inr ⟨b,o,h4,D.wO h b o e xs h5⟩
theorem D.kj{O O':Own}{w w':World}
 (h:∀b o v,w.cell? ⟨b,o,none⟩=some v->¬O b o->w'.cell? ⟨b,o,none⟩=some v/\¬O' b o):
 ∀(cs:List D)(vs:List Value),D.iK O w cs vs->D.iK O' w' cs vs
 |[],vs=>fun hx=>by simpa[D.iK]using hx
 |c::cs,vs=>fun hx=>by
  simp only[D.iK]at hx⊢;obtain⟨v,r,h1,h0,h2,h3⟩:=hx;exact⟨v,r,h1,h0,D.ke h c _ h2,D.kj h cs r h3⟩
theorem D.wO{O O':Own}{w w':World}
 (h:∀b o v,w.cell? ⟨b,o,none⟩=some v->¬O b o->w'.cell? ⟨b,o,none⟩=some v/\¬O' b o):
 ∀(b o e:Nat)(xs:List D),D.row O w b o e xs->D.row O' w' b o e xs
 |_,_,_,[]=>fun _=>by simp[D.row]
 |b,o,e,.agg cs::xs=>fun hx=>by
  simp only[D.row]at hx⊢;obtain⟨⟨vs,h1,h2,h3⟩,h4⟩:=hx;exact⟨⟨vs,h1,h2.mono h,D.kj h cs vs h3⟩,D.wO h b (o+e) e xs h4⟩
 |b,o,e,.any::xs=>fun hx=>by
  simp only[D.row]at hx⊢;obtain⟨⟨v,h1,h2,h3⟩,h4⟩:=hx;exact⟨⟨v,h1,h2.mono h,D.ke h .any v h3⟩,D.wO h b (o+e) e xs h4⟩
 |b,o,e,.lit u::xs=>fun hx=>by
  simp only[D.row]at hx⊢;obtain⟨⟨v,h1,h2,h3⟩,h4⟩:=hx;exact⟨⟨v,h1,h2.mono h,D.ke h (.lit u) v h3⟩,D.wO h b (o+e) e xs h4⟩
 |b,o,e,.sl e' nl ys::xs=>fun hx=>by
  simp only[D.row]at hx⊢;obtain⟨⟨v,h1,h2,h3⟩,h4⟩:=hx;exact⟨⟨v,h1,h2.mono h,D.ke h (.sl e' nl ys) v h3⟩,D.wO h b (o+e) e xs h4⟩
end
inductive AV where
 |iN
 |d (x:D)
 |own (e id:Nat) (xs:List D)
 |ptr (id off:Nat)
 |tS (e id off len:Nat)
 |pv (cs:List D)
 |agg (cs:List AV)
 |oz (cs:List AV)
 |fn (f:Nat) (first cap:List AV)
 |mL (e id n:Nat)
 |mJ (id k off:Nat)
 |BZ (e:Nat) (xs:List D)
 |nm (u:Value) (e:Nat) (xs:List D)
 |dp (x:D)
 |mp (id:Nat)
 deriving Inhabited
inductive Place where
 |no
 |CU (b:Nat)
 |tok (v:Value) (n:Nat)
 |jj (v:Value) (n:Nat) (bs:List Nat)
def Place.at:Place->Value->Nat->Prop
 |.tok u n,v,m=>u=v/\n=m
 |.jj u n _,v,m=>u=v/\n=m
 |_,_,_=>False
abbrev gZ:=Nat->Place
inductive Ob where
 |dead
 |obj (t:Nat) (cs:List AV)
 |tok (t e n:Nat)
 |lO (t e n:Nat) (cs:List D)
 |jj (t e n:Nat) (cs:List AV)
 |oU (e n:Nat) (cs:List AV)
 |mp (P:Program) (k:Nat) (es:List (Lit×D))
 deriving Inhabited
abbrev gQ:=List (Nat×Ob)
def sat:gQ->Nat->Ob
 |[],_=>.dead
 |(j,x)::r,i=>if i=j then x else sat r i
def sset:gQ->Nat->Ob->gQ
 |[],i,ob=>[(i,ob)]
 |(j,x)::r,i,ob=>if i=j then(i,ob)::r else if i<j then(i,ob)::(j,x)::r else(j,x)::sset r i ob
theorem iE(s:gQ)(i j:Nat)(ob:Ob):sat (sset s i ob) j=if j=i then ob else sat s j:=by
 induction s with
 |nil=>simp[sset,sat]
 |cons p r ih=>
  obtain⟨q,x⟩:=p;simp only[sset];split
  ·rename_i h;subst h;simp only[sat];split<;>simp_all
  ·split
   ·simp only[sat]
   ·simp only[sat,ih];repeat' split
    all_goals simp_all
mutual
def AV.ok(β:gZ)(O:Own)(w:World):AV->Value->Prop
 |.iN,_=>True
 |.d x,v=>D.ok O w x v
 |.own e id xs,v=>D.ok O w (.sl e none xs) v/\∃u n,(β id).at u n/\xs.length<=n/\(xs.length=n->v=u)
 |.ptr id off,v=>∃b,β id=.CU b/\v=.pointer (some ⟨b,off,none⟩)
 |.tS _ id off len,v=>∃b cap,β id=.CU b/\(len<=cap/\cap<2^63)/\v=.slice (some ⟨b,off,none⟩) len cap
 |.pv cs,v=>∃b o vs,v=.pointer (some ⟨b,o,none⟩)/\jW O w b o vs/\D.iK O w cs vs
 |.agg cs,v=>∃vs:Array Value,v=.agg vs/\(∀u∈vs.toList,one u=true)/\AV.iK β O w cs vs.toList
 |.oz cs,v=>∃vs:Array Value,v=.tuple vs/\AV.iK β O w cs vs.toList
 |.fn f first cap,v=>∃fs cs:Array Value,v=.func (.func f) fs cs/\AV.iK β O w first fs.toList/\AV.iK β O w cap cs.toList
 |.mL _ id n,v=>∃u m,(β id).at u m/\n<=m/\(n=m->v=u)/\((∃a,v=.slice a 0 0/\n=0)\/∃b cap,v=.slice (some ⟨b,0,none⟩) n cap/\n<=cap/\cap<2^63)
 |.mJ id k off,v=>∃u m b off',(β id).at u m/\k<=m/\v=.pointer (some ⟨b,off',none⟩)/\(m=k->∃cap,u=.slice (some ⟨b,0,none⟩) m cap/\off'=off)
 |.BZ e xs,v=>∃a,v=.slice a xs.length xs.length/\D.ok O w (.sl e none xs) v
 |.nm u e xs,v=>v=u/\D.ok O w (.sl e none xs) v
 |.dp _,_=>True
 |.mp id,v=>∃b,β id=.CU b/\v=.map (some b)
def AV.iK(β:gZ)(O:Own)(w:World):List AV->List Value->Prop
 |[],vs=>vs=[]
 |x::xs,vs=>∃v r,vs=v::r/\AV.ok β O w x v/\AV.iK β O w xs r
end
def mG:Place->Place->Prop
 |.no,_=>True
 |.CU b,p=>p=.CU b
 |.tok u n,p=>∃u' n',p=.tok u' n'/\n<=n'/\(n=n'->u'=u)
 |.jj u n _,p=>∃u' n' bs',p=.jj u' n' bs'/\n<=n'/\(n=n'->u'=u)
theorem mG.refl(p:Place):mG p p:=by
 cases p with
 |no=>trivial
 |CU b=>rfl
 |tok u n=>exact⟨u,n,rfl,aO _,fun _=>rfl⟩
 |jj u n bs=>exact⟨u,n,bs,rfl,aO _,fun _=>rfl⟩
theorem mG.trans{p q r:Place}(h:mG p q)(k:mG q r):mG p r:=by
 cases p with
 |no=>trivial
 |CU b=>cases h;cases k;rfl
 |tok u n=>
  obtain⟨u',n',rfl,h1,h2⟩:=h;obtain⟨u'',n'',rfl,k1,k2⟩:=k;refine⟨u'',n'',rfl,gu,fun e=>?_⟩;rw[k2 gu,h2 gu]
 |jj u n bs=>
  obtain⟨u',n',b1,rfl,h1,h2⟩:=h;obtain⟨u'',n'',b2,rfl,k1,k2⟩:=k;refine⟨u'',n'',b2,rfl,gu,fun e=>?_⟩;rw[k2 gu,h2 gu]
theorem mG.at{p q:Place}(h:mG p q){u:Value}{n:Nat}(hp:p.at u n):∃u' n',q.at u' n'/\n<=n'/\(n=n'->u'=u):=by
 cases p with
 |no=>exact hp.elim
 |CU b=>exact hp.elim
 |tok u0 n0=>
  obtain⟨rfl,rfl⟩:=hp;obtain⟨u',n',rfl,h1,h2⟩:=h;exact⟨u',n',⟨rfl,rfl⟩,h1,h2⟩
 |jj u0 n0 bs=>
  obtain⟨rfl,rfl⟩:=hp;obtain⟨u',n',b1,rfl,h1,h2⟩:=h;exact⟨u',n',⟨rfl,rfl⟩,h1,h2⟩
mutual
theorem AV.ke{β β':gZ}{O O':Own}{w w':World}
 (h:∀b o v,w.cell? ⟨b,o,none⟩=some v->¬O b o->w'.cell? ⟨b,o,none⟩=some v/\¬O' b o)
 (hb:∀id,mG (β id) (β' id)):∀(x:AV)(v:Value),AV.ok β O w x v->AV.ok β' O' w' x v
 |.iN,v=>fun _=>by simp[AV.ok]
 |.d x,v=>fun hx=>by
  simp only[AV.ok]at hx⊢;exact D.ke h x v hx
 |.own e id xs,v=>fun hx=>by
  simp only[AV.ok]at hx⊢;obtain⟨h1,u,n,h2,h3,h4⟩:=hx;obtain⟨u',n',h5,h6,h7⟩:=(hb id).at h2;exact⟨D.ke h _ _ h1,u',n',h5,gu,fun e=>by rw[h7 gu];exact h4 gu⟩
 |.ptr id off,v=>fun hx=>by
  simp only[AV.ok]at hx⊢;obtain⟨b,h1,h2⟩:=hx;have hp:=hb id;rw[h1]at hp;exact⟨b,hp,h2⟩
 |.tS e id off len,v=>fun hx=>by
  simp only[AV.ok]at hx⊢;obtain⟨b,cap,h1,h2⟩:=hx;have hp:=hb id;rw[h1]at hp;exact⟨b,cap,hp,h2⟩
 |.pv cs,v=>fun hx=>by
  simp only[AV.ok]at hx⊢;obtain⟨b,o,vs,h1,h2,h3⟩:=hx;exact⟨b,o,vs,h1,h2.mono h,D.kj h _ _ h3⟩
 |.agg cs,v=>fun hx=>by
  simp only[AV.ok]at hx⊢;obtain⟨vs,h1,h0,h2⟩:=hx;exact⟨vs,h1,h0,AV.kj h hb cs _ h2⟩
 |.oz cs,v=>fun hx=>by
  simp only[AV.ok]at hx⊢;obtain⟨vs,h1,h2⟩:=hx;exact⟨vs,h1,AV.kj h hb cs _ h2⟩
 |.fn f first cap,v=>fun hx=>by
  simp only[AV.ok]at hx⊢;obtain⟨fs,cs,h1,h2,h3⟩:=hx;exact⟨fs,cs,h1,AV.kj h hb first _ h2,AV.kj h hb cap _ h3⟩
 |.mL e id n,v=>fun hx=>by
  simp only[AV.ok]at hx⊢;obtain⟨u,m,h1,h2,h3,h4⟩:=hx;obtain⟨u',m',h5,h6,h7⟩:=(hb id).at h1;exact⟨u',m',h5,gu,fun e=>by rw[h7 gu];exact h3 gu,h4⟩
 |.mJ id k off,v=>fun hx=>by
  simp only[AV.ok]at hx⊢;obtain⟨u,m,b,off',h1,h2,h0,h3⟩:=hx;obtain⟨u',m',h5,h6,h7⟩:=(hb id).at h1;refine⟨u',m',b,off',h5,gu,h0,fun e=>?_⟩;have hm:m=m':=by omega
  subst hm;rw[h7 rfl];exact h3 e
 |.BZ e xs,v=>fun hx=>by
  simp only[AV.ok]at hx⊢;obtain⟨a,h1,h2⟩:=hx;exact⟨a,h1,D.ke h _ v h2⟩
 |.nm u e xs,v=>fun hx=>by
  simp only[AV.ok]at hx⊢;exact⟨hx.1,D.ke h _ v hx.2⟩
 |.dp x,v=>fun _=>by simp[AV.ok]
 |.mp id,v=>fun hx=>by
  simp only[AV.ok]at hx⊢;obtain⟨b,h1,h2⟩:=hx;have hp:=hb id;rw[h1]at hp;exact⟨b,hp,h2⟩
theorem AV.kj{β β':gZ}{O O':Own}{w w':World}
 (h:∀b o v,w.cell? ⟨b,o,none⟩=some v->¬O b o->w'.cell? ⟨b,o,none⟩=some v/\¬O' b o)
 (hb:∀id,mG (β id) (β' id)):∀(xs:List AV)(vs:List Value),AV.iK β O w xs vs->AV.iK β' O' w' xs vs
 |[],vs=>fun hx=>by simpa[AV.iK]using hx
 |x::xs,vs=>fun hx=>by
  simp only[AV.iK]at hx⊢;obtain⟨v,r,h1,h2,h3⟩:=hx;exact⟨v,r,h1,AV.ke h hb x v h2,AV.kj h hb xs r h3⟩
end
mutual
def AV.hG(ρ:Nat->Option Nat):AV->AV
 |.iN=>.iN
 |.d x=>.d x
 |.own e id xs=>match ρ id with|some j=>.own e j xs|none=>.d (.sl e none xs)
 |.ptr id off=>match ρ id with|some j=>.ptr j off|none=>.iN
 |.tS e id off len=>match ρ id with|some j=>.tS e j off len|none=>.iN
 |.pv cs=>.pv cs
 |.agg cs=>.agg (AV.gY ρ cs)
 |.oz cs=>.oz (AV.gY ρ cs)
 |.fn f a b=>.fn f (AV.gY ρ a) (AV.gY ρ b)
 |.mL e id n=>match ρ id with|some j=>.mL e j n|none=>.iN
 |.mJ id k off=>match ρ id with|some j=>.mJ j k off|none=>.iN
 |.BZ e xs=>.BZ e xs
 |.nm u e xs=>.nm u e xs
 |.dp x=>.dp x
 |.mp id=>match ρ id with|some j=>.mp j|none=>.iN
def AV.gY(ρ:Nat->Option Nat):List AV->List AV
 |[]=>[]
 |x::xs=>AV.hG ρ x::AV.gY ρ xs
end
mutual
theorem AV.xH{β β':gZ}{O:Own}{w:World}{ρ:Nat->Option Nat}(hr:∀i j,ρ i=some j->β' j=β i):
 ∀(x:AV)(v:Value),AV.ok β O w x v->AV.ok β' O w (x.hG ρ) v
 |.iN,v=>fun _=>by simp[AV.hG,AV.ok]
 |.d x,v=>fun hx=>by simpa[AV.hG,AV.ok]using hx
 |.own e id xs,v=>fun hx=>by
  simp only[AV.ok,AV.hG]at hx⊢;cases hq:ρ id with
  |none=>exact hx.1
  |some j=>simp only[AV.ok];rw[hr _ _ hq];exact hx
 |.ptr id off,v=>fun hx=>by
  simp only[AV.ok,AV.hG]at hx⊢;cases hq:ρ id with
  |none=>simp[AV.ok]
  |some j=>simp only[AV.ok];rw[hr _ _ hq];exact hx
 |.tS e id off len,v=>fun hx=>by
  simp only[AV.ok,AV.hG]at hx⊢;cases hq:ρ id with
  |none=>simp[AV.ok]
  |some j=>simp only[AV.ok];rw[hr _ _ hq];exact hx
 |.pv cs,v=>fun hx=>by simpa[AV.hG,AV.ok]using hx
 |.agg cs,v=>fun hx=>by
  simp only[AV.ok,AV.hG]at hx⊢;obtain⟨vs,h1,h0,h2⟩:=hx;exact⟨vs,h1,h0,AV.xz hr cs _ h2⟩
 |.oz cs,v=>fun hx=>by
  simp only[AV.ok,AV.hG]at hx⊢;obtain⟨vs,h1,h2⟩:=hx;exact⟨vs,h1,AV.xz hr cs _ h2⟩
 |.fn f a b,v=>fun hx=>by
  simp only[AV.ok,AV.hG]at hx⊢;obtain⟨fs,cs,h1,h2,h3⟩:=hx;exact⟨fs,cs,h1,AV.xz hr a _ h2,AV.xz hr b _ h3⟩
 |.mL e id n,v=>fun hx=>by
  simp only[AV.ok,AV.hG]at hx⊢;cases hq:ρ id with
  |none=>simp[AV.ok]
  |some j=>simp only[AV.ok];rw[hr _ _ hq];exact hx
 |.mJ id k off,v=>fun hx=>by
  simp only[AV.ok,AV.hG]at hx⊢;cases hq:ρ id with
  |none=>simp[AV.ok]
  |some j=>simp only[AV.ok];rw[hr _ _ hq];exact hx
 |.BZ e xs,v=>fun hx=>by
  simp only[AV.ok,AV.hG]at hx⊢;exact hx
 |.nm u e xs,v=>fun hx=>by
  simp only[AV.ok,AV.hG]at hx⊢;exact hx
 |.dp x,v=>fun _=>by simp[AV.hG,AV.ok]
 |.mp id,v=>fun hx=>by
  simp only[AV.ok,AV.hG]at hx⊢;cases hq:ρ id with
  |none=>simp[AV.ok]
  |some j=>simp only[AV.ok];rw[hr _ _ hq];exact hx
theorem AV.xz{β β':gZ}{O:Own}{w:World}{ρ:Nat->Option Nat}(hr:∀i j,ρ i=some j->β' j=β i):
 ∀(xs:List AV)(vs:List Value),AV.iK β O w xs vs->AV.iK β' O w (AV.gY ρ xs) vs
 |[],vs=>fun hx=>by simpa[AV.gY,AV.iK]using hx
 |x::xs,vs=>fun hx=>by
  simp only[AV.iK,AV.gY]at hx⊢;obtain⟨v,r,h1,h2,h3⟩:=hx;exact⟨v,r,h1,AV.xH hr x v h2,AV.xz hr xs r h3⟩
end
def AV.cells:AV->Option (List AV)
 |.d (.agg cs)=>some (cs.map .d)
 |.agg cs=>some cs
 |.iN=>none
 |.oz _=>none
 |.dp _=>none
 |x=>some [x]
def AV.rf:List AV->Option (List D)
 |[]=>some []
 |.d x::xs=>(AV.rf xs).map (x::·)
 |_::_=>none
def AV.mk(cs:List AV):AV:=
 match AV.rf cs with
 |some ds=>.d (.agg ds)
 |none=>.agg cs
def own(β:gZ)(s:gQ)(b o:Nat):Prop:=
 ∃id,match sat s id with
  |.dead=>False
  |.obj _ _=>β id=.CU b
  |.tok _ e n=>∃cap,β id=.tok (.slice (some ⟨b,0,none⟩) n cap) n/\n*e<=o
  |.lO _ _ n _=>∃cap,β id=.tok (.slice (some ⟨b,0,none⟩) n cap) n
  |.jj _ e n _=>∃cap bs,β id=.jj (.slice (some ⟨b,0,none⟩) n cap) n bs/\n*e<=o
  |.oU _ n _=>∃v bs,β id=.jj v n bs/\((∃cap,v=.slice (some ⟨b,0,none⟩) n cap/\0<cap)\/b∈bs)
  |.mp _ _ _=>False
def gy(β:gZ)(s:gQ)(id b:Nat):Prop:=
 match sat s id with
 |.dead=>False
 |.obj _ _=>β id=.CU b
 |.tok _ _ n=>∃cap,β id=.tok (.slice (some ⟨b,0,none⟩) n cap) n
 |.lO _ _ n _=>∃cap,β id=.tok (.slice (some ⟨b,0,none⟩) n cap) n
 |.jj _ _ n _=>∃v bs,β id=.jj v n bs/\((∃cap,v=.slice (some ⟨b,0,none⟩) n cap)\/b∈bs)
 |.oU _ n _=>∃v bs,β id=.jj v n bs/\((∃cap,v=.slice (some ⟨b,0,none⟩) n cap/\0<cap)\/b∈bs)
 |.mp _ _ _=>β id=.CU b
theorem own.block{β:gZ}{s:gQ}{b o:Nat}(h:own β s b o):∃id,gy β s id b:=by
 obtain⟨id,h⟩:=h;refine⟨id,?_⟩;unfold gy;cases hs:sat s id with
 |dead=>rw[hs]at h;exact h
 |obj t cs=>rw[hs]at h;exact h
 |tok t e n=>rw[hs]at h;obtain⟨cap,h1,_⟩:=h;exact⟨cap,h1⟩
 |lO t e n cs=>rw[hs]at h;exact h
 |jj t e n cs=>rw[hs]at h;obtain⟨cap,bs,h1,_⟩:=h;exact⟨_,bs,h1,.inl ⟨cap,rfl⟩⟩
 |oU e n cs=>rw[hs]at h;exact h
 |mp P k es=>rw[hs]at h;exact h.elim
def VP(w:World)(t e n:Nat)(u:Value):Prop:=
 (u=.slice none 0 0/\n=0)\/∃b cap vs,u=.slice (some ⟨b,0,none⟩) n cap/\w.heap[b]?=some (.cells vs t (0,0))/\
  vs.size=cap*e/\n<=cap/\cap<2^63/\∀v∈vs.toList,one v=true
def S1(O:Own)(w:World)(t e n:Nat)(u:Value)(cs:List D):Prop:=
 (u=.slice none 0 0/\n=0)\/∃b cap vs,u=.slice (some ⟨b,0,none⟩) n cap/\w.heap[b]?=some (.cells vs t (0,0))/\
  vs.size=cap*e/\n<=cap/\cap<2^63/\(∀v∈vs.toList,one v=true)/\∃pre rest,vs.toList=pre++rest/\D.iK O w cs pre
def I2(β:gZ)(O:Own)(w:World)(cs:List AV)(vs:List Value):Prop:=∃pre rest,vs=pre++rest/\AV.iK β O w cs pre
theorem I2.of{β:gZ}{O:Own}{w:World}{cs:List AV}{vs:List Value}(h:AV.iK β O w cs vs):I2 β O w cs vs:=⟨vs,[],by simp,h⟩
theorem I2.imp{β β':gZ}{O O':Own}{w w':World}{cs cs':List AV}{vs:List Value}(h:I2 β O w cs vs)(f:∀vs,AV.iK β O w cs vs->AV.iK β' O' w' cs' vs):I2 β' O' w' cs' vs:=
 let⟨pre,rest,h1,h2⟩:=h;⟨pre,rest,h1,f _ h2⟩
mutual
def NV(w:World):D->Value->List Nat->Prop
 |.any,_,_=>False
 |.agg _,_,_=>False
 |.lit u,v,bs=>v=u/\one u=true/\bs=[]
 |.sl e nl xs,v,bs=>∃a cap,v=.slice a xs.length cap/\KA xs.length cap/\LM nl a cap/\
  ((cap=0/\xs=[]/\bs=[])\/∃b vs t bs',a=some ⟨b,0,none⟩/\bs=b::bs'/\w.heap[b]?=some (.cells vs t (0,0))/\vs.size=cap*e/\
   (∀v∈vs.toList,one v=true)/\NR w e xs vs.toList bs')
def NC(w:World):List D->List Value->List Nat->Prop
 |[],vs,bs=>vs=[]/\bs=[]
 |c::cs,vs,bs=>∃v r b1 b2,vs=v::r/\bs=b1++b2/\NV w c v b1/\NC w cs r b2
def NR(w:World)(e:Nat):List D->List Value->List Nat->Prop
 |[],_,bs=>bs=[]
 |.agg cs::xs,vs,bs=>∃us r b1 b2,vs=us++r/\us.length=e/\bs=b1++b2/\NC w cs us b1/\NR w e xs r b2
 |x::xs,vs,bs=>∃v r b1 b2,vs=v::r/\e=1/\bs=b1++b2/\NV w x v b1/\NR w e xs r b2
end
def NX(β:gZ)(O:Own)(w:World):AV->Value->List Nat->Prop
 |.dp d,v,bs=>NV w d v bs
 |x,v,bs=>AV.ok β O w x v/\bs=[]
def oT(β:gZ)(O:Own)(w:World):List AV->List Value->List Nat->Prop
 |[],_,bs=>bs=[]
 |x::xs,vs,bs=>∃v r b1 b2,vs=v::r/\bs=b1++b2/\NX β O w x v b1/\oT β O w xs r b2
def G9(β:gZ)(O:Own)(w:World)(t e n:Nat)(u:Value)(bs:List Nat)(cs:List AV):Prop:=
 cs.length=n*e/\((u=.slice none 0 0/\n=0/\bs=[])\/∃b cap vs,u=.slice (some ⟨b,0,none⟩) n cap/\w.heap[b]?=some (.cells vs t (0,0))/\
  vs.size=cap*e/\n<=cap/\cap<2^63/\(∀v∈vs.toList,one v=true)/\(b::bs).Nodup/\oT β O w cs vs.toList bs)
def AX(β:gZ)(O:Own)(w:World)(e n:Nat)(u:Value)(bs:List Nat)(cs:List AV):Prop:=
 cs.length=n*e/\(((∃a,u=.slice a 0 0)/\n=0/\bs=[])\/∃b cap vs t,u=.slice (some ⟨b,0,none⟩) n cap/\w.heap[b]?=some (.cells vs t (0,0))/\
  vs.size=cap*e/\n<=cap/\cap<2^63/\(∀v∈vs.toList,one v=true)/\0<cap/\(b::bs).Nodup/\oT β O w cs vs.toList bs)
def Bf(v:Value):Option (DataW Value×List MemPlace):=some (.held v,[])
noncomputable instance aaa:DecidableEq Lit:=fun a b=>Classical.propDecidable (a=b)
def tZ{α:Type}:List (Lit×α)->Lit->Option α
 |[],_=>none
 |(k,x)::r,kl=>if k=kl then some x else tZ r kl
def AB{α:Type}(kl:Lit)(es:List (Lit×α)):List (Lit×α):=es.filter fun p=>!decide (p.1=kl)
theorem Ft{α:Type}{kl l:Lit}:∀{es:List (Lit×α)},tZ (AB kl es) l=if l=kl then none else tZ es l
 |[]=>by simp[AB,tZ]
 |(k,x)::r=>by
  have ih:=Ft (kl:=kl) (l:=l) (es:=r);unfold AB at ih⊢;rw[fC];by_cases hk:k=kl
  ·subst hk;simp only[aC,Bool.not_true,ah,ay,ih,tZ];by_cases hl:l=k
   ·simp[hl]
   ·have:k≠l:=fun e=>hl e.symm
    simp[hl,this]
  ·simp only[hk,aL,Bool.not_false,aj,tZ,ih];by_cases hl:k=l
   ·subst hl;simp[hk]
   ·simp[hl]
theorem H_{α:Type}{kl:Lit}{x:α}:∀{es:List (Lit×α)},tZ es kl=some x->kl∈es.map (·.1)
 |[],h=>by simp[tZ]at h
 |(k,y)::r,h=>by
  unfold tZ at h;split at h
  ·rename_i e;simp[e]
  ·simp[H_ h]
def yQ(O:Own)(w:World)(P:Program)(k:Nat)(es:List (Lit×D))(b:Nat):Prop:=
 ∃E:DataW Value,w.ownsMap P k Bf b (Maps.size E) E/\∀kl,match tZ es kl with
  |none=>Maps.has E kl=false
  |some x=>∃v,(∀z,E.atKey kl z=.held v)/\one v=true/\D.ok O w x v
theorem yQ.block{O:Own}{w:World}{P:Program}{k:Nat}{es:List (Lit×D)}{b:Nat}(h:yQ O w P k es b):∃xs c,w.heap[b]?=some (.map xs c):=
 let⟨_,⟨xs,c,h1,_⟩,_⟩:=h;⟨xs,c,h1⟩
theorem yQ.imp{O O':Own}{w w':World}{P:Program}{k:Nat}{es:List (Lit×D)}{b:Nat}(hb:w'.heap[b]?=w.heap[b]?)(hd:∀x v,D.ok O w x v->D.ok O' w' x v)
 (h:yQ O w P k es b):yQ O' w' P k es b:=by
 obtain⟨E,⟨xs,c,h1,h2⟩,h3⟩:=h;refine⟨E,⟨xs,c,by rw[hb,h1],h2⟩,fun kl=>?_⟩;have:=h3 kl;cases hm:tZ es kl with
 |none=>rw[hm]at this;exact this
 |some x=>rw[hm]at this;obtain⟨v,k1,k2,k3⟩:=this;exact⟨v,k1,k2,hd _ _ k3⟩
def vO(β:gZ)(O:Own)(w:World)(id:Nat):Ob->Prop
 |.dead=>β id=.no
 |.obj t cs=>∃b vs,β id=.CU b/\w.heap[b]?=some (.cells vs t (0,0))/\(∀v∈vs.toList,one v=true)/\I2 β O w cs vs.toList
 |.tok t e n=>∃u,β id=.tok u n/\VP w t e n u
 |.lO t e n cs=>∃u,β id=.tok u n/\cs.length=n*e/\S1 O w t e n u cs
 |.jj t e n cs=>∃u bs,β id=.jj u n bs/\(∀b∈bs,∃vs t',w.heap[b]?=some (.cells vs t' (0,0)))/\G9 β O w t e n u bs cs
 |.oU e n cs=>∃u bs,β id=.jj u n bs/\(∀b∈bs,∃vs t',w.heap[b]?=some (.cells vs t' (0,0)))/\AX β O w e n u bs cs
 |.mp P k es=>∃b,β id=.CU b/\yQ O w P k es b
mutual
theorem NV.congr{w w':World}:∀{x:D}{v:Value}{bs:List Nat},(∀b∈bs,w'.heap[b]?=w.heap[b]?)->NV w x v bs->NV w' x v bs
 |.any,_,_=>fun _ h=>h.elim
 |.agg _,_,_=>fun _ h=>h.elim
 |.lit u,_,_=>fun _ h=>h
 |.sl e nl xs,v,bs=>fun hb h=>by
  simp only[NV]at h⊢;obtain⟨a,cap,h1,h2,h3,h4⟩:=h;refine⟨a,cap,h1,h2,h3,?_⟩;rcases h4 with h4|⟨b,vs,t,bs',h4,h5,h6,h7,h8,h9⟩
  ·exact .inl h4
  ·subst h5;exact .inr ⟨b,vs,t,bs',h4,rfl,by rw[hb b (by simp)];exact h6,h7,h8,NR.congr (fun b' hb'=>hb b' (by simp[hb'])) h9⟩
theorem NC.congr{w w':World}:∀{xs:List D}{vs:List Value}{bs:List Nat},(∀b∈bs,w'.heap[b]?=w.heap[b]?)->NC w xs vs bs->NC w' xs vs bs
 |[],_,_=>fun _ h=>h
 |c::cs,vs,bs=>fun hb h=>by
  simp only[NC]at h⊢;obtain⟨v,r,b1,b2,h1,h2,h3,h4⟩:=h;subst h2;exact⟨v,r,b1,b2,h1,rfl,NV.congr (fun b h=>hb b (by simp[h])) h3,NC.congr (fun b h=>hb b (by simp[h])) h4⟩
theorem NR.congr{w w':World}{e:Nat}:∀{xs:List D}{vs:List Value}{bs:List Nat},(∀b∈bs,w'.heap[b]?=w.heap[b]?)->NR w e xs vs bs->NR w' e xs vs bs
 |[],_,_=>fun _ h=>h
 |.agg cs::xs,vs,bs=>fun hb h=>by
  simp only[NR]at h⊢;obtain⟨us,r,b1,b2,h1,h0,h2,h3,h4⟩:=h;subst h2;exact⟨us,r,b1,b2,h1,h0,rfl,NC.congr (fun b h=>hb b (by simp[h])) h3,NR.congr (fun b h=>hb b (by simp[h])) h4⟩
 |.any::xs,vs,bs=>fun hb h=>by
  simp only[NR]at h⊢;obtain⟨v,r,b1,b2,h1,h0,h2,h3,h4⟩:=h;exact h3.elim
 |.lit u::xs,vs,bs=>fun hb h=>by
  have hc:=fun v b=>NV.congr (w:=w) (w':=w') (x:=.lit u) (v:=v) (bs:=b)
  simp only[NR]at h⊢;obtain⟨v,r,b1,b2,h1,h0,h2,h3,h4⟩:=h;subst h2;exact⟨v,r,b1,b2,h1,h0,rfl,hc v b1 (fun b h=>hb b (by simp[h])) h3,NR.congr (fun b h=>hb b (by simp[h])) h4⟩
 |.sl e' nl ys::xs,vs,bs=>fun hb h=>by
  have hc:=fun v b=>NV.congr (w:=w) (w':=w') (x:=.sl e' nl ys) (v:=v) (bs:=b)
  simp only[NR]at h⊢;obtain⟨v,r,b1,b2,h1,h0,h2,h3,h4⟩:=h;subst h2;exact⟨v,r,b1,b2,h1,h0,rfl,hc v b1 (fun b h=>hb b (by simp[h])) h3,NR.congr (fun b h=>hb b (by simp[h])) h4⟩
end
theorem NX.imp{β β':gZ}{O O':Own}{w w':World}{x x':AV}{v:Value}{bs:List Nat}(hb:∀b∈bs,w'.heap[b]?=w.heap[b]?)
 (hx:(∃d,x=.dp d/\x'=.dp d)\/(∀d,x≠ .dp d)/\(∀d,x'≠ .dp d)/\(AV.ok β O w x v->AV.ok β' O' w' x' v)) (h:NX β O w x v bs):NX β' O' w' x' v bs:=by
 rcases hx with⟨d,rfl,rfl⟩|⟨h1,h2,h3⟩
 ·exact NV.congr hb h
 ·have e1:AV.ok β O w x v/\bs=[]:=by cases x<;>first|exact h|exact absurd rfl (h1 _)
  have e2:AV.ok β' O' w' x' v/\bs=[]:=⟨h3 e1.1,e1.2⟩;cases x'<;>first|exact e2|exact absurd rfl (h2 _)
theorem oT.imp{β β':gZ}{O O':Own}{w w':World}{f:AV->AV}(hf:∀x v,((∃d,x=.dp d/\f x=.dp d)\/(∀d,x≠ .dp d)/\(∀d,f x≠ .dp d)/\(AV.ok β O w x v->AV.ok β' O' w' (f x) v))):
 ∀{xs:List AV}{vs:List Value}{bs:List Nat},(∀b∈bs,w'.heap[b]?=w.heap[b]?)->oT β O w xs vs bs->oT β' O' w' (xs.map f) vs bs
 |[],_,_=>fun _ h=>h
 |x::xs,vs,bs=>fun hb h=>by
  simp only[oT,aT]at h⊢;obtain⟨v,r,b1,b2,h1,h2,h3,h4⟩:=h;subst h2;exact⟨v,r,b1,b2,h1,rfl,h3.imp (fun b h=>hb b (by simp[h])) (hf x v),oT.imp hf (fun b h=>hb b (by simp[h])) h4⟩
theorem G9.imp{β β':gZ}{O O':Own}{w w':World}{f:AV->AV}{t e n:Nat}{u:Value}{bs:List Nat}{cs:List AV}
 (hf:∀x v,((∃d,x=.dp d/\f x=.dp d)\/(∀d,x≠ .dp d)/\(∀d,f x≠ .dp d)/\(AV.ok β O w x v->AV.ok β' O' w' (f x) v)))
 (hb:∀b∈bs,w'.heap[b]?=w.heap[b]?) (hm:∀b cap,u=.slice (some ⟨b,0,none⟩) n cap->w'.heap[b]?=w.heap[b]?) (h:G9 β O w t e n u bs cs):G9 β' O' w' t e n u bs (cs.map f):=by
 obtain⟨h0,h⟩:=h;refine⟨by simpa using h0,?_⟩;rcases h with h|⟨b,cap,vs,h1,h2,h3,h4,h5,h6,h7,h8⟩
 ·exact .inl h
 ·exact .inr ⟨b,cap,vs,h1,by rw[hm b cap h1];exact h2,h3,h4,h5,h6,h7,oT.imp hf hb h8⟩
theorem AX.imp{β β':gZ}{O O':Own}{w w':World}{f:AV->AV}{e n:Nat}{u:Value}{bs:List Nat}{cs:List AV}
 (hf:∀x v,((∃d,x=.dp d/\f x=.dp d)\/(∀d,x≠ .dp d)/\(∀d,f x≠ .dp d)/\(AV.ok β O w x v->AV.ok β' O' w' (f x) v)))
 (hb:∀b∈bs,w'.heap[b]?=w.heap[b]?) (hm:∀b cap,u=.slice (some ⟨b,0,none⟩) n cap->0<cap->w'.heap[b]?=w.heap[b]?) (h:AX β O w e n u bs cs):AX β' O' w' e n u bs (cs.map f):=by
 obtain⟨h0,h⟩:=h;refine⟨by simpa using h0,?_⟩;rcases h with h|⟨b,cap,vs,t,h1,h2,h3,h4,h5,h6,h9,h7,h8⟩
 ·exact .inl h
 ·exact .inr ⟨b,cap,vs,t,h1,by rw[hm b cap h1 h9];exact h2,h3,h4,h5,h6,h9,h7,oT.imp hf hb h8⟩
theorem qb{β β':gZ}{O O':Own}{w w':World}(h:∀x v,AV.ok β O w x v->AV.ok β' O' w' x v)(x:AV)(v:Value):
 ((∃d,x=.dp d/\x=.dp d)\/(∀d,x≠ .dp d)/\(∀d,x≠ .dp d)/\(AV.ok β O w x v->AV.ok β' O' w' x v)):=by
 cases x with
 |dp d=>exact .inl ⟨d,rfl,rfl⟩
 |_=>exact .inr ⟨fun d h=>(nomatch h),fun d h=>(nomatch h),h _ v⟩
def EL(w:World):=(w.os,w.output,w.tape)
structure Ctx where
 O:Own
 β:gZ
 s:gQ
 w:World
 k:Nat
 ro:Option Nat:=none
 dom:Nat:=0
 nm:Bool:=false
def Ctx.vC(C:Ctx):Fence:={fn:=fun _=>True,depth:=none,alive:=false,round:=C.ro}
def Pg(D:Nat):Deferred:={target:=.collected D,args:=#[]}
def Marks(C:Ctx)(ds:List Deferred):Prop:=
 (C.nm=true->ds=[])/\∃Ds:List Nat,ds=Ds.map Pg/\Ds.Nodup/\∀D∈Ds,C.dom<=D/\D<C.w.heap.size/\C.w.heap[D]?=some (.deferred (some []))/\∀id,¬gy C.β C.s id D
theorem Marks.nil{C:Ctx}:Marks C []:=⟨fun _=>rfl,[],rfl,.nil,fun _ h=>by cases h⟩
def Ctx.gO(C:Ctx)(β:gZ)(s:gQ):Own:=fun b o=>C.O b o\/own β s b o
structure Inv(C:Ctx)(β:gZ)(s:gQ)(w:World):Prop where
 size:C.w.heap.size<=w.heap.size
 io:EL w=EL C.w
 keep:∀b o v,C.w.cell? ⟨b,o,none⟩=some v->¬own C.β C.s b o->w.cell? ⟨b,o,none⟩=some v
 vr:∀b,b<C.w.heap.size->(∀id,¬gy C.β C.s id b)->w.heap[b]?=C.w.heap[b]?
 sK:∀b o,own β s b o->own C.β C.s b o\/C.w.heap.size<=b
 uW:∀id b,gy β s id b->(∃i,gy C.β C.s i b)\/C.w.heap.size<=b
 pl:∀id,id<C.k->mG (C.β id) (β id)
 low:∀b o,C.O b o->b<C.w.heap.size/\¬own C.β C.s b o
 obs:∀id,vO β (C.gO β s) w id (sat s id)
 inj:∀i j b,gy β s i b->gy β s j b->i=j
structure St(C:Ctx)(β:gZ)(env:List AV)(s:gQ)(a:Act)(w:World):Prop where
 defers:Marks C a.defers
 inv:Inv C β s w
 len:a.tmps.size=env.length
 env:∀i x,env[i]?=some x->AV.ok β (C.gO β s) w x (a.tmps.getD i undef)
theorem Inv.qo{C:Ctx}{β:gZ}{s:gQ}{w:World}(h:Inv C β s w){id b:Nat}(hb:gy β s id b):b<w.heap.size:=by
 have ho:=h.obs id;unfold gy at hb;cases hs:sat s id with
 |dead=>rw[hs]at hb;exact hb.elim
 |obj t cs=>
  rw[hs]at hb ho;obtain⟨b',vs,h1,h2,_,_⟩:=ho;rw[hb]at h1;cases h1;exact(bC.1 h2).1
 |tok t e n=>
  rw[hs]at hb ho;obtain⟨cap,hb⟩:=hb;obtain⟨u,h1,h2⟩:=ho;rw[hb]at h1;cases h1;rcases h2 with⟨h2,_⟩|⟨b',cap',vs,h2,h3,_⟩
  ·cases h2
  ·cases h2;exact(bC.1 h3).1
 |lO t e n cs=>
  rw[hs]at hb ho;obtain⟨cap,hb⟩:=hb;obtain⟨u,h1,_,h2⟩:=ho;rw[hb]at h1;cases h1;rcases h2 with⟨h2,_⟩|⟨b',cap',vs,h2,h3,_⟩
  ·cases h2
  ·cases h2;exact(bC.1 h3).1
 |jj t e n cs=>
  rw[hs]at hb ho;obtain⟨v,bs,hb,hb2⟩:=hb;obtain⟨u,bs',h1,h0,_,h2⟩:=ho;rw[hb]at h1;cases h1;rcases hb2 with⟨cap,rfl⟩|hb2
  ·rcases h2 with⟨h2,_⟩|⟨b',cap',vs,h2,h3,_⟩
   ·cases h2
   ·cases h2;exact(bC.1 h3).1
  ·obtain⟨vs,t',h3⟩:=h0 b hb2;exact(bC.1 h3).1
 |oU e n cs=>
  rw[hs]at hb ho;obtain⟨v,bs,hb,hb2⟩:=hb;obtain⟨u,bs',h1,h0,_,h2⟩:=ho;rw[hb]at h1;cases h1;rcases hb2 with⟨cap,rfl,hc0⟩|hb2
  ·rcases h2 with⟨⟨_,h2⟩,_⟩|⟨b',cap',vs,t',h2,h3,_⟩
   ·simp only[bw]at h2;omega
   ·cases h2;exact(bC.1 h3).1
  ·obtain⟨vs,t',h3⟩:=h0 b hb2;exact(bC.1 h3).1
 |mp P k es=>
  rw[hs]at hb ho;obtain⟨b',h1,h2⟩:=ho;rw[hb]at h1;cases h1;obtain⟨xs,c,h3⟩:=h2.block;exact(bC.1 h3).1
theorem Inv.J_{C:Ctx}{β:gZ}{s:gQ}{w:World}(h:Inv C β s w){b o:Nat}(hb:own β s b o):b<w.heap.size:=
 let⟨_,hb⟩:=hb.block;h.qo hb
theorem uZ{w:World}{b o:Nat}{v:Value}(h:w.cell? ⟨b,o,none⟩=some v):b<w.heap.size:=
 World.block_lt_of_cell? w _ h
structure mu(β:gZ)(s:gQ)(w:World)(β':gZ)(s':gQ)(w':World):Prop where
 size:w.heap.size<=w'.heap.size
 io:EL w'=EL w
 keep:∀b o v,w.cell? ⟨b,o,none⟩=some v->¬own β s b o->w'.cell? ⟨b,o,none⟩=some v
 vr:∀b,b<w.heap.size->(∀id,¬gy β s id b)->w'.heap[b]?=w.heap[b]?
 sK:∀b o,own β' s' b o->own β s b o\/w.heap.size<=b
 uW:∀id b,gy β' s' id b->(∃i,gy β s i b)\/w.heap.size<=b
 pl:∀id,mG (β id) (β' id)
theorem mu.stays{C:Ctx}{β β':gZ}{s s':gQ}{w w':World}(m:mu β s w β' s' w'):
 ∀b o v,w.cell? ⟨b,o,none⟩=some v->¬C.gO β s b o->w'.cell? ⟨b,o,none⟩=some v/\¬C.gO β' s' b o:=by
 intro b o v hc hn;have hlt:=uZ hc;refine⟨m.keep b o v hc fun h=>hn (.inr h),fun h=>?_⟩;rcases h with h|h
 ·exact hn (.inl h)
 ·rcases m.sK b o h with h|h
  ·exact hn (.inr h)
  ·omega
theorem mu.ok{C:Ctx}{β β':gZ}{s s':gQ}{w w':World}(m:mu β s w β' s' w'){x:AV}{v:Value}
 (h:AV.ok β (C.gO β s) w x v):AV.ok β' (C.gO β' s') w' x v:=AV.ke m.stays m.pl x v h
theorem mu.RI{C:Ctx}{β β':gZ}{s s':gQ}{w w':World}(m:mu β s w β' s' w'){xs:List D}{vs:List Value}
 (h:D.iK (C.gO β s) w xs vs):D.iK (C.gO β' s') w' xs vs:=D.kj m.stays xs vs h
theorem mu.iK{C:Ctx}{β β':gZ}{s s':gQ}{w w':World}(m:mu β s w β' s' w'){xs:List AV}{vs:List Value}
 (h:AV.iK β (C.gO β s) w xs vs):AV.iK β' (C.gO β' s') w' xs vs:=AV.kj m.stays m.pl xs vs h
theorem Inv.move{C:Ctx}{β β':gZ}{s s':gQ}{w w':World}(h:Inv C β s w)(m:mu β s w β' s' w')
 (hobs:∀id,vO β' (C.gO β' s') w' id (sat s' id)) (hinj:∀i j b,gy β' s' i b->gy β' s' j b->i=j):Inv C β' s' w' where
 size:=bP h.size m.size
 io:=m.io.trans h.io
 keep:=fun b o v hc hn=>by
  have h1:=h.keep b o v hc hn;refine m.keep b o v h1 fun ho=>?_
  rcases h.sK b o ho with h2|h2
  ·exact hn h2
  ·have:=uZ hc;omega
 vr:=fun b hb hn=>by
  have h1:=h.vr b hb hn;rw[<-h1];refine m.vr b (eE hb h.size) fun id hid=>?_
  rcases h.uW id b hid with⟨i,hi⟩|h2
  ·exact hn i hi
  ·omega
 sK:=fun b o ho=>by
  rcases m.sK b o ho with h1|h1
  ·exact h.sK b o h1
  ·exact .inr (bP h.size h1)
 uW:=fun id b hb=>by
  rcases m.uW id b hb with⟨i,h1⟩|h1
  ·exact h.uW i b h1
  ·exact .inr (bP h.size h1)
 pl:=fun id hid=>(h.pl id hid).trans (m.pl id)
 low:=h.low
 obs:=hobs
 inj:=hinj
theorem St.move{C:Ctx}{β β':gZ}{env:List AV}{s s':gQ}{a:Act}{w w':World}(h:St C β env s a w)(m:mu β s w β' s' w')
 (hobs:∀id,vO β' (C.gO β' s') w' id (sat s' id)) (hinj:∀i j b,gy β' s' i b->gy β' s' j b->i=j):St C β' env s' a w' where
 defers:=h.defers
 inv:=h.inv.move m hobs hinj
 len:=h.len
 env:=fun i x hx=>m.ok (h.env i x hx)
theorem St.put{C:Ctx}{β:gZ}{env:List AV}{s:gQ}{a:Act}{w:World}(h:St C β env s a w){x:AV}{v:Value}
 (hx:AV.ok β (C.gO β s) w x v) (d:Option Tmp):
 St C β (match d with|some d=>env.set d x|none=>env) s (a.put d v) w:=by
 cases d with
 |none=>exact h
 |some d=>
  refine⟨h.defers,h.inv,by simp[Act.put,h.len],fun i y hy=>?_⟩;simp only[Act.put];rw[dX]at hy;by_cases hdi:d=i
  ·subst hdi;simp only[aj]at hy;split at hy
   ·rename_i hlt;cases hy;have:d<a.tmps.size:=by rw[h.len];exact hlt
    simpa[cA,fH,this]using hx
   ·cases hy
  ·simp only[hdi,ay]at hy;have:=h.env i y hy;simpa[cA,fH,hdi]using this
theorem vO.sJ{C:Ctx}{β β':gZ}{s s':gQ}{w w':World}(m:mu β s w β' s' w'){id:Nat}{ob:Ob}
 (h:vO β (C.gO β s) w id ob) (hb:β' id=β id)
 (hh:∀b,gy β s id b->w'.heap[b]?=w.heap[b]?) (hs:sat s id=ob):vO β' (C.gO β' s') w' id ob:=by
 cases ob with
 |dead=>exact hb.trans h
 |obj t cs=>
  obtain⟨b,vs,h1,h2,h0,h3⟩:=h;have hbl:gy β s id b:=by unfold gy;rw[hs];exact h1
  exact⟨b,vs,by rw[hb,h1],by rw[hh b hbl,h2],h0,h3.imp fun _ h=>m.iK h⟩
 |tok t e n=>
  obtain⟨u,h1,h2⟩:=h;refine⟨u,by rw[hb,h1],?_⟩;rcases h2 with h2|⟨b,cap,vs,h2,h3,h4⟩
  ·exact .inl h2
  ·have hbl:gy β s id b:=by unfold gy;rw[hs];exact⟨cap,by rw[h1,h2]⟩
   exact .inr ⟨b,cap,vs,h2,by rw[hh b hbl,h3],h4⟩
 |lO t e n cs=>
  obtain⟨u,h1,hl,h2⟩:=h;refine⟨u,by rw[hb,h1],hl,?_⟩;rcases h2 with h2|⟨b,cap,vs,h2,h3,h4,h5,h6,h7,pre,rest,h8,h9⟩
  ·exact .inl h2
  ·have hbl:gy β s id b:=by unfold gy;rw[hs];exact⟨cap,by rw[h1,h2]⟩
   exact .inr ⟨b,cap,vs,h2,by rw[hh b hbl,h3],h4,h5,h6,h7,pre,rest,h8,m.RI h9⟩
 |jj t e n cs=>
  obtain⟨u,bs,h1,h0,h2⟩:=h;have hbs:∀b∈bs,w'.heap[b]?=w.heap[b]?:=fun b hb'=>hh b (by unfold gy;rw[hs];exact⟨u,bs,h1,.inr hb'⟩)
  refine⟨u,bs,by rw[hb,h1],fun b hb'=>by rw[hbs b hb'];exact h0 b hb',?_⟩;have:=h2.imp (f:=fun x=>x) (qb fun x v=>m.ok) hbs fun b cap hu=>hh b (by unfold gy;rw[hs];exact⟨u,bs,h1,.inl ⟨cap,hu⟩⟩)
  simpa using this
 |oU e n cs=>
  obtain⟨u,bs,h1,h0,h2⟩:=h;have hbs:∀b∈bs,w'.heap[b]?=w.heap[b]?:=fun b hb'=>hh b (by unfold gy;rw[hs];exact⟨u,bs,h1,.inr hb'⟩)
  refine⟨u,bs,by rw[hb,h1],fun b hb'=>by rw[hbs b hb'];exact h0 b hb',?_⟩;have:=h2.imp (f:=fun x=>x) (qb fun x v=>m.ok) hbs fun b cap hu h0=>hh b (by unfold gy;rw[hs];exact⟨u,bs,h1,.inl ⟨cap,hu,h0⟩⟩)
  simpa using this
 |mp P k es=>
  obtain⟨b,h1,h2⟩:=h;have hbl:gy β s id b:=by unfold gy;rw[hs];exact h1
  exact⟨b,by rw[hb,h1],h2.imp (hh b hbl) fun x v h=>D.ke m.stays _ _ h⟩
theorem mu.grow{β:gZ}{s:gQ}{w w':World}(hs:w.heap.size<=w'.heap.size)(hio:EL w'=EL w)
 (hk:∀b,b<w.heap.size->w'.heap[b]?=w.heap[b]?):mu β s w β s w':=by
 refine⟨hs,hio,fun b o v hc _=>?_,fun b hb _=>hk b hb,fun _ _ h=>.inl h,fun id _ h=>.inl ⟨id,h⟩,fun _=>.refl _⟩;rw[<-hc];exact cF (hk b (uZ hc))
theorem St.grow{C:Ctx}{β:gZ}{env:List AV}{s:gQ}{a:Act}{w w':World}(h:St C β env s a w)(hs:w.heap.size<=w'.heap.size)(hio:EL w'=EL w)
 (hk:∀b,b<w.heap.size->w'.heap[b]?=w.heap[b]?):St C β env s a w':=by
 have m:mu β s w β s w':=.grow hs hio hk;exact h.move m (fun id=>(h.inv.obs id).sJ m rfl (fun b hb=>hk b (h.inv.qo hb)) rfl) h.inv.inj
theorem St.drew{C:Ctx}{β:gZ}{env:List AV}{s:gQ}{a:Act}{w:World}(h:St C β env s a w):St C β env s a {w with drawn:=w.drawn+1}:=
 h.grow (aO _) rfl fun _ _=>rfl
def OX:Obj->Bool
 |.map _ _=>true
 |_=>false
def Ug(o:Obj):Prop:=o.isCells=false/\OX o=false
theorem MM{w:World}{row:Option Nat}(hr:∀r,row=some r->∃o:Obj,w.heap[r]?=some o/\Ug o):∀r,row=some r->∃o:Obj,w.heap[r]?=some o/\o.isCells=false:=
 fun r e=>let⟨o,h1,h2⟩:=hr r e;⟨o,h1,h2.1⟩
theorem Be{w w':World}{row:Option Nat}(hg:w.grownBy w' row)(hr:∀r,row=some r->∃o:Obj,w.heap[r]?=some o/\Ug o){b:Nat}{xs:Array MapEntry}{c:Nat}(h:w.heap[b]?=some (.map xs c)):w'.heap[b]?=w.heap[b]?:=by
 refine hg.block b (bC.1 h).1 fun e=>?_
 obtain⟨o,h1,h2⟩:=hr b e.symm;rw[h]at h1;cases h1;simp[Ug,OX]at h2
theorem vO.J6{β:gZ}{O:Own}{w w':World}{row:Option Nat}(hg:w.grownBy w' row)(hr:∀r,row=some r->∃o:Obj,w.heap[r]?=some o/\Ug o){id:Nat}{ob:Ob}
 (h:vO β O w id ob):vO β O w' id ob:=by
 have hs:∀b o v,w.cell? ⟨b,o,none⟩=some v->¬O b o->w'.cell? ⟨b,o,none⟩=some v/\¬O b o:=fun b o v hc hn=>⟨cell_kept hc hg (MM hr),hn⟩
 have hb:∀(b:Nat)(vs:Array Value)(t:TypeId),w.heap[b]?=some (.cells vs t (0,0))->w'.heap[b]?=some (.cells vs t (0,0)):=fun b vs t h=>(fj hg (MM hr) h rfl).trans h
 cases ob with
 |dead=>exact h
 |obj t cs=>
  obtain⟨b,vs,h1,h2,h0,h3⟩:=h;exact⟨b,vs,h1,hb _ _ _ h2,h0,h3.imp fun _ h=>AV.kj hs (fun _=>.refl _) _ _ h⟩
 |tok t e n=>
  obtain⟨u,h1,h2⟩:=h;refine⟨u,h1,?_⟩;rcases h2 with h2|⟨b,cap,vs,h2,h3,h4⟩
  ·exact .inl h2
  ·exact .inr ⟨b,cap,vs,h2,hb _ _ _ h3,h4⟩
 |lO t e n cs=>
  obtain⟨u,h1,hl,h2⟩:=h;refine⟨u,h1,hl,?_⟩;rcases h2 with h2|⟨b,cap,vs,h2,h3,h4,h5,h6,h7,pre,rest,h8,h9⟩
  ·exact .inl h2
  ·exact .inr ⟨b,cap,vs,h2,hb _ _ _ h3,h4,h5,h6,h7,pre,rest,h8,D.kj hs _ _ h9⟩
 |jj t e n cs=>
  obtain⟨u,bs,h1,h0,h2⟩:=h;have hbs:∀b∈bs,w'.heap[b]?=w.heap[b]?:=fun b hb'=>by obtain⟨vs,t',h3⟩:=h0 b hb';exact fj hg (MM hr) h3 rfl
  refine⟨u,bs,h1,fun b hb'=>by rw[hbs b hb'];exact h0 b hb',h2.1,?_⟩;rcases h2.2 with h2|⟨b,cap,vs,h2,h3,h4,h5,h6,h7,h8,h9⟩
  ·exact .inl h2
  ·refine .inr ⟨b,cap,vs,h2,hb _ _ _ h3,h4,h5,h6,h7,h8,?_⟩;have:=oT.imp (f:=fun x=>x) (qb fun x v=>AV.ke hs (fun _=>.refl _) x v) hbs h9;simpa using this
 |oU e n cs=>
  obtain⟨u,bs,h1,h0,h2⟩:=h;have hbs:∀b∈bs,w'.heap[b]?=w.heap[b]?:=fun b hb'=>by obtain⟨vs,t',h3⟩:=h0 b hb';exact fj hg (MM hr) h3 rfl
  refine⟨u,bs,h1,fun b hb'=>by rw[hbs b hb'];exact h0 b hb',h2.1,?_⟩;rcases h2.2 with h2|⟨b,cap,vs,t,h2,h3,h4,h5,h6,h7,h10,h8,h9⟩
  ·exact .inl h2
  ·refine .inr ⟨b,cap,vs,t,h2,hb _ _ _ h3,h4,h5,h6,h7,h10,h8,?_⟩;have:=oT.imp (f:=fun x=>x) (qb fun x v=>AV.ke hs (fun _=>.refl _) x v) hbs h9;simpa using this
 |mp P k es=>
  obtain⟨b,h1,h2⟩:=h;obtain⟨xs,c,h3⟩:=h2.block;exact⟨b,h1,h2.imp (Be hg hr h3) fun x v h=>D.ke hs _ _ h⟩
theorem Inv.J6{C:Ctx}{β:gZ}{s:gQ}{w w':World}{row:Option Nat}(h:Inv C β s w)(hg:w.grownBy w' row)
 (hr:∀r,row=some r->C.w.heap.size<=r/\∃o:Obj,w.heap[r]?=some o/\Ug o):Inv C β s w' where
 size:=bP h.size hg.size
 io:=by rw[<-h.io];simp only[EL,hg.os,hg.tape,hg.output]
 keep:=fun b o v hc hn=>cell_kept (h.keep b o v hc hn) hg (MM fun r e=>(hr r e).2)
 vr:=fun b hb hn=>(hg.block b (eE hb h.size) fun e=>by have:=(hr b e.symm).1;omega).trans (h.vr b hb hn)
 sK:=h.sK
 uW:=h.uW
 pl:=h.pl
 low:=h.low
 obs:=fun id=>(h.obs id).J6 hg fun r e=>(hr r e).2
 inj:=h.inj
theorem Inv.ro{C:Ctx}{β:gZ}{s:gQ}{w:World}(r:Option Nat)(d:Nat)(h:Inv C β s w):Inv {C with ro:=r,dom:=d,nm:=false} β s w:=
 ⟨h.size,h.io,h.keep,h.vr,h.sK,h.uW,h.pl,h.low,h.obs,h.inj⟩
theorem Inv.ro'{C:Ctx}{β:gZ}{s:gQ}{w:World}{r:Option Nat}{d:Nat}(h:Inv {C with ro:=r,dom:=d,nm:=false} β s w):Inv C β s w:=
 ⟨h.size,h.io,h.keep,h.vr,h.sK,h.uW,h.pl,h.low,h.obs,h.inj⟩
def gC(id:Nat):Nat->Option Nat:=fun i=>if i=id then none else some i
def Ob.kill(id:Nat):Ob->Ob
 |.obj t cs=>.obj t (AV.gY (gC id) cs)
 |.jj t e n cs=>.jj t e n (AV.gY (gC id) cs)
 |.oU e n cs=>.oU e n (AV.gY (gC id) cs)
 |x=>x
def gS(id:Nat):gQ->gQ
 |[]=>[]
 |(j,x)::r=>(j,if j=id then .dead else x.kill id)::gS id r
theorem sd(s:gQ)(id j:Nat):sat (gS id s) j=if j=id then .dead else(sat s j).kill id:=by
 induction s with
 |nil=>simp only[gS,sat];split<;>rfl
 |cons p r ih=>
  obtain⟨q,x⟩:=p;simp only[gS,sat,ih];by_cases hj:j=q
  ·subst hj;simp
  ·simp[hj]
def gG(β:gZ)(id:Nat)(p:Place):gZ:=fun i=>if i=id then p else β i
theorem uH{β:gZ}{s:gQ}{id b o:Nat}(h:own (gG β id .no) (gS id s) b o):own β s b o:=by
 obtain⟨i,h⟩:=h;rw[sd]at h;by_cases hi:i=id
 ·subst hi;simp at h
 ·refine⟨i,?_⟩;simp only[hi,ay]at h;cases hs:sat s i with
  |dead=>rw[hs]at h;exact h
  |obj t cs=>rw[hs]at h;simpa[Ob.kill,gG,hi]using h
  |tok t e n=>rw[hs]at h;simpa[Ob.kill,gG,hi]using h
  |lO t e n cs=>rw[hs]at h;simpa[Ob.kill,gG,hi]using h
  |jj t e n cs=>rw[hs]at h;simpa[Ob.kill,gG,hi]using h
  |oU e n cs=>rw[hs]at h;simpa[Ob.kill,gG,hi]using h
  |mp P k es=>rw[hs]at h;simpa[Ob.kill,gG,hi]using h
theorem yt{β:gZ}{s:gQ}{id i b:Nat}(h:gy (gG β id .no) (gS id s) i b):gy β s i b:=by
 unfold gy at h⊢;rw[sd]at h;by_cases hi:i=id
 ·subst hi;simp at h
 ·simp only[hi,ay]at h;cases hs:sat s i with
  |dead=>rw[hs]at h;exact h
  |obj t cs=>rw[hs]at h;simpa[Ob.kill,gG,hi]using h
  |tok t e n=>rw[hs]at h;simpa[Ob.kill,gG,hi]using h
  |lO t e n cs=>rw[hs]at h;simpa[Ob.kill,gG,hi]using h
  |jj t e n cs=>rw[hs]at h;simpa[Ob.kill,gG,hi]using h
  |oU e n cs=>rw[hs]at h;simpa[Ob.kill,gG,hi]using h
  |mp P k es=>rw[hs]at h;simpa[Ob.kill,gG,hi]using h
theorem xo{C:Ctx}{β:gZ}{s:gQ}{w:World}{id:Nat}{x:AV}{v:Value}(h:AV.ok β (C.gO β s) w x v):
 AV.ok (gG β id .no) (C.gO (gG β id .no) (gS id s)) w (x.hG (gC id)) v:=by
 have h1:AV.ok (gG β id .no) (C.gO β s) w (x.hG (gC id)) v:=AV.xH (fun i j hij=>by
  unfold gC at hij;split at hij
  ·cases hij
  ·cases hij;simp[gG, *]) x v h
 exact AV.ke (fun b o v hc hn=>⟨hc,fun h=>hn (h.imp (fun x=>x) uH)⟩) (fun _=>.refl _) _ _ h1
theorem HX{C:Ctx}{β:gZ}{s:gQ}{w:World}{id:Nat}:∀{xs:List AV}{vs:List Value},AV.iK β (C.gO β s) w xs vs->
 AV.iK (gG β id .no) (C.gO (gG β id .no) (gS id s)) w (AV.gY (gC id) xs) vs
 |[],vs=>fun h=>by simpa[AV.gY,AV.iK]using h
 |x::xs,vs=>fun h=>by
  simp only[AV.gY,AV.iK]at h⊢;obtain⟨v,r,h1,h2,h3⟩:=h;exact⟨v,r,h1,xo h2,HX h3⟩
theorem Mw{C:Ctx}{β:gZ}{s:gQ}{w:World}{id:Nat}{xs:List D}{vs:List Value}(h:D.iK (C.gO β s) w xs vs):
 D.iK (C.gO (gG β id .no) (gS id s)) w xs vs:=
 D.kj (fun _ _ _ hc hn=>⟨hc,fun h=>hn (h.imp (fun x=>x) uH)⟩) xs vs h
theorem vc(ρ:Nat->Option Nat):∀(xs:List AV)(i:Nat),(AV.gY ρ xs)[i]?=(xs[i]?).map (AV.hG ρ)
 |[],_=>by simp[AV.gY]
 |x::xs,0=>by simp[AV.gY]
 |x::xs,i+1=>by simp[AV.gY,vc ρ xs i]
theorem rK(ρ:Nat->Option Nat):∀(xs:List AV),(AV.gY ρ xs).length=xs.length
 |[]=>rfl
 |x::xs=>by simp[AV.gY,rK ρ xs]
theorem lW(ρ:Nat->Option Nat):∀z:List AV,AV.gY ρ z=z.map (AV.hG ρ)
 |[]=>rfl
 |x::xs=>by simp only[aT,AV.gY,lW ρ xs]
theorem pL{β β':gZ}{O O':Own}{w w':World}{ρ:Nat->Option Nat}{x:AV}{v:Value}(h:AV.ok β O w x v->AV.ok β' O' w' (x.hG ρ) v):
 ((∃d,x=.dp d/\x.hG ρ=.dp d)\/(∀d,x≠ .dp d)/\(∀d,x.hG ρ≠ .dp d)/\(AV.ok β O w x v->AV.ok β' O' w' (x.hG ρ) v)):=by
 cases x with
 |dp d=>exact .inl ⟨d,rfl,rfl⟩
 |own e j xs=>refine .inr ⟨fun d h=>(nomatch h),fun d h=>?_,h⟩;simp only[AV.hG]at h;split at h<;>exact nomatch h
 |ptr j off=>refine .inr ⟨fun d h=>(nomatch h),fun d h=>?_,h⟩;simp only[AV.hG]at h;split at h<;>exact nomatch h
 |tS e j off len=>refine .inr ⟨fun d h=>(nomatch h),fun d h=>?_,h⟩;simp only[AV.hG]at h;split at h<;>exact nomatch h
 |mL e j k=>refine .inr ⟨fun d h=>(nomatch h),fun d h=>?_,h⟩;simp only[AV.hG]at h;split at h<;>exact nomatch h
 |mJ j k off=>refine .inr ⟨fun d h=>(nomatch h),fun d h=>?_,h⟩;simp only[AV.hG]at h;split at h<;>exact nomatch h
 |mp j=>refine .inr ⟨fun d h=>(nomatch h),fun d h=>?_,h⟩;simp only[AV.hG]at h;split at h<;>exact nomatch h
 |_=>exact .inr ⟨fun d h=>(nomatch h),fun d h=>(nomatch h),h⟩
theorem Inv.kill{C:Ctx}{β:gZ}{s:gQ}{w:World}(h:Inv C β s w)(id:Nat)(hid:C.k<=id):Inv C (gG β id .no) (gS id s) w where
 size:=h.size
 io:=h.io
 keep:=h.keep
 vr:=h.vr
 sK:=fun b o ho=>h.sK b o (uH ho)
 uW:=fun id b hb=>h.uW id b (yt hb)
 pl:=fun i hi=>by
  have:i≠id:=gu;simpa[gG,this]using h.pl i hi
 low:=h.low
 obs:=fun i=>by
  rw[sd];by_cases hi:i=id
  ·subst hi;simp[vO,gG]
  ·simp only[hi,ay];have ho:=h.obs i;cases hs:sat s i with
   |dead=>rw[hs]at ho;simpa[Ob.kill,vO,gG,hi]using ho
   |obj t cs=>
    rw[hs]at ho;obtain⟨b,vs,h1,h2,h0,h3⟩:=ho;exact⟨b,vs,by simpa[gG,hi]using h1,h2,h0,h3.imp fun _ h=>HX h⟩
   |tok t e n=>
    rw[hs]at ho;obtain⟨u,h1,h2⟩:=ho;exact⟨u,by simpa[gG,hi]using h1,h2⟩
   |lO t e n cs=>
    rw[hs]at ho;obtain⟨u,h1,hl,h2⟩:=ho;refine⟨u,by simpa[gG,hi]using h1,hl,?_⟩;rcases h2 with h2|⟨b,cap,vs,h2,h3,h4,h5,h6,h7,pre,rest,h8,h9⟩
    ·exact .inl h2
    ·exact .inr ⟨b,cap,vs,h2,h3,h4,h5,h6,h7,pre,rest,h8,Mw h9⟩
   |jj t e n cs=>
    rw[hs]at ho;obtain⟨u,bs,h1,h0,h2⟩:=ho;refine⟨u,bs,by simpa[gG,hi]using h1,h0,?_⟩;rw[lW];exact h2.imp (fun x v=>pL xo) (fun _ _=>rfl) (fun _ _ _=>rfl)
   |oU e n cs=>
    rw[hs]at ho;obtain⟨u,bs,h1,h0,h2⟩:=ho;refine⟨u,bs,by simpa[gG,hi]using h1,h0,?_⟩;rw[lW];exact h2.imp (fun x v=>pL xo) (fun _ _=>rfl) (fun _ _ _ _=>rfl)
   |mp P k es=>
    rw[hs]at ho;obtain⟨b,h1,h2⟩:=ho;exact⟨b,by simpa[gG,hi]using h1,h2.imp rfl fun x v hx=>D.ke (fun _ _ _ hc hn=>⟨hc,fun h=>hn (h.imp (fun x=>x) uH)⟩) _ _ hx⟩
 inj:=fun i j b hi hj=>h.inj i j b (yt hi) (yt hj)
theorem St.kill{C:Ctx}{β:gZ}{env:List AV}{s:gQ}{a:Act}{w:World}(h:St C β env s a w)(id:Nat)(hid:C.k<=id):
 St C (gG β id .no) (AV.gY (gC id) env) (gS id s) a w where
 defers:=h.defers
 inv:=h.inv.kill id hid
 len:=by rw[rK];exact h.len
 env:=fun i x hx=>by
  rw[vc]at hx;cases hy:env[i]? with
  |none=>rw[hy]at hx;cases hx
  |some y=>rw[hy]at hx;cases hx;exact xo (h.env i y hy)
theorem sX{β:gZ}{s:gQ}{id b o:Nat}{ob:Ob}{p:Place}(h:own (gG β id p) (sset s id ob) b o):
 own β s b o\/own (gG β id p) [(id,ob)] b o:=by
 obtain⟨i,h⟩:=h;rw[iE]at h;by_cases hi:i=id
 ·subst hi;exact .inr ⟨i,by simpa[sat]using h⟩
 ·refine .inl ⟨i,?_⟩;simp only[hi,ay]at h;cases hs:sat s i with
  |dead=>rw[hs]at h;exact h
  |obj t cs=>rw[hs]at h;simpa[gG,hi]using h
  |tok t e n=>rw[hs]at h;simpa[gG,hi]using h
  |lO t e n cs=>rw[hs]at h;simpa[gG,hi]using h
  |jj t e n cs=>rw[hs]at h;simpa[gG,hi]using h
  |oU e n cs=>rw[hs]at h;simpa[gG,hi]using h
  |mp P k es=>rw[hs]at h;first|exact h.elim|simpa[gG,hi]using h
theorem Ii{β:gZ}{s:gQ}{id b o:Nat}{ob:Ob}{p:Place}(h:own (gG β id p) (sset s id ob) b o):
 (∃i,i≠id/\gy β s i b)\/own (gG β id p) [(id,ob)] b o:=by
 obtain⟨i,h⟩:=h;rw[iE]at h;by_cases hi:i=id
 ·subst hi;exact .inr ⟨i,by simpa[sat]using h⟩
 ·refine .inl ⟨i,hi,?_⟩;simp only[hi,ay]at h;unfold gy;cases hs:sat s i with
  |dead=>rw[hs]at h;exact h
  |obj t cs=>rw[hs]at h;simpa[gG,hi]using h
  |tok t e n=>rw[hs]at h;obtain⟨cap,h1,_⟩:=h;exact⟨cap,by simpa[gG,hi]using h1⟩
  |lO t e n cs=>rw[hs]at h;obtain⟨cap,h1⟩:=h;exact⟨cap,by simpa[gG,hi]using h1⟩
  |jj t e n cs=>rw[hs]at h;obtain⟨cap,bs,h1,_⟩:=h;exact⟨_,bs,by simpa[gG,hi]using h1,.inl ⟨cap,rfl⟩⟩
  |oU e n cs=>rw[hs]at h;simpa[gG,hi]using h
  |mp P k es=>rw[hs]at h;first|exact h.elim|simpa[gG,hi]using h
theorem jk{β:gZ}{s:gQ}{id i b:Nat}{ob:Ob}{p:Place}(h:gy (gG β id p) (sset s id ob) i b):
 (i≠id/\gy β s i b)\/(i=id/\gy (gG β id p) [(id,ob)] id b):=by
 unfold gy at h⊢;rw[iE]at h;by_cases hi:i=id
 ·subst hi;exact .inr ⟨rfl,by simpa[sat]using h⟩
 ·refine .inl ⟨hi,?_⟩;simp only[hi,ay]at h;cases hs:sat s i with
  |dead=>rw[hs]at h;exact h
  |obj t cs=>rw[hs]at h;simpa[gG,hi]using h
  |tok t e n=>rw[hs]at h;simpa[gG,hi]using h
  |lO t e n cs=>rw[hs]at h;simpa[gG,hi]using h
  |jj t e n cs=>rw[hs]at h;simpa[gG,hi]using h
  |oU e n cs=>rw[hs]at h;simpa[gG,hi]using h
  |mp P k es=>rw[hs]at h;first|exact h.elim|simpa[gG,hi]using h
theorem b_{w:World}{o:Obj}{b:Nat}(h:b<w.heap.size):(w.alloc o).heap[b]?=w.heap[b]?:=Go.RowKit.Below.heap_alloc w o b h
theorem cW{w:World}{o:Obj}:(w.alloc o).heap[w.heap.size]?=some o:=by show(w.heap.push o)[w.heap.size]?=some o;simp
theorem St.fresh{C:Ctx}{β:gZ}{env:List AV}{s:gQ}{a:Act}{w:World}(h:St C β env s a w){id:Nat}
 {ob:Ob} {p:Place} {c:Array Value} {t:Nat} (hpl:mG (β id) p)
 (hown:∀b o,own (gG β id p) [(id,ob)] b o->b=w.heap.size)
 (hbl:∀b,gy (gG β id p) [(id,ob)] id b->b=w.heap.size)
 (hob:∀β' F,(∀x v,AV.ok β (C.gO β s) w x v->AV.ok β' F (w.alloc (.cells c t)) x v)->(∀xs vs,AV.iK β (C.gO β s) w xs vs->AV.iK β' F (w.alloc (.cells c t)) xs vs)->
  β' id=p->vO β' F (w.alloc (.cells c t)) id ob):
 St C (gG β id p) env (sset s id ob) a (w.alloc (.cells c t))/\mu β s w (gG β id p) (sset s id ob) (w.alloc (.cells c t)):=by
 have m:mu β s w (gG β id p) (sset s id ob) (w.alloc (.cells c t)):=by
  refine⟨by simp,rfl,fun b o v hc _=>?_,fun b hb _=>b_ hb,fun b o ho=>?_,fun i b hb=>?_,fun i=>?_⟩
  ·rw[<-hc];exact cF (b_ (uZ hc))
  ·rcases sX ho with ho|ho
   ·exact .inl ho
   ·exact .inr (dW (hown b o ho).symm)
  ·rcases jk hb with⟨_,hb⟩|⟨_,hb⟩
   ·exact .inl ⟨i,hb⟩
   ·exact .inr (dW (hbl b hb).symm)
  ·by_cases hi:i=id
   ·subst hi;simpa[gG]using hpl
   ·simp only[gG,hi,ay];exact .refl _
 refine⟨h.move m (fun i=>?_) (fun i j b hi hj=>?_),m⟩
 ·rw[iE];by_cases hi:i=id
  ·subst hi;simp only[aj];exact hob _ _ (fun x v hx=>m.ok hx) (fun xs vs hx=>m.iK hx) (by simp[gG])
  ·simp only[hi,ay];exact(h.inv.obs i).sJ m (by simp[gG,hi]) (fun b hb=>b_ (h.inv.qo hb)) rfl
 ·rcases jk hi with⟨hi1,hi2⟩|⟨rfl,hi2⟩<;>rcases jk hj with⟨hj1,hj2⟩|⟨rfl,hj2⟩
  ·exact h.inv.inj i j b hi2 hj2
  ·have:=h.inv.qo hi2;have:=hbl b hj2;omega
  ·have:=h.inv.qo hj2;have:=hbl b hi2;omega
  ·rfl
theorem St.newObj{C:Ctx}{β:gZ}{env:List AV}{s:gQ}{a:Act}{w:World}(h:St C β env s a w){id:Nat}(hd:sat s id=.dead)
 {c:Array Value} {t:Nat} {cs:List AV} (h0:∀v∈c.toList,one v=true) (hc:AV.iK β (C.gO β s) w cs c.toList):
 ∃β',St C β' env (sset s id (.obj t cs)) a (w.alloc (.cells c t))/\mu β s w β' (sset s id (.obj t cs)) (w.alloc (.cells c t))/\
  AV.ok β' (C.gO β' (sset s id (.obj t cs))) (w.alloc (.cells c t)) (.ptr id 0) (.pointer (some ⟨w.heap.size,0,none⟩)):=by
 have hno:β id=.no:=by have:=h.inv.obs id;rw[hd]at this;exact this
 obtain⟨h1,h2⟩:=h.fresh (id:=id) (ob:=.obj t cs) (p:=.CU w.heap.size) (c:=c) (t:=t) (by rw[hno];trivial)
  (fun b o ho=>by
   obtain⟨i,ho⟩:=ho;by_cases hi:i=id
   ·subst hi;simp[sat,gG]at ho;exact ho.symm
   ·simp[sat,hi]at ho)
  (fun b hb=>by simp[gy,sat,gG]at hb;exact hb.symm)
  (fun β' F _ hxs hp=>⟨w.heap.size,c,hp,cW,h0,.of (hxs _ _ hc)⟩)
 exact⟨_,h1,h2,by simp only[AV.ok];exact⟨w.heap.size,by simp[gG],rfl⟩⟩
theorem St.UW{C:Ctx}{β:gZ}{env:List AV}{s:gQ}{a:Act}{w:World}(h:St C β env s a w){id:Nat}(hd:sat s id=.dead)(P:Program)(k:Nat):
 ∃β',St C β' env (sset s id (.mp P k [])) a (w.alloc (.map #[] 0))/\mu β s w β' (sset s id (.mp P k [])) (w.alloc (.map #[] 0))/\
  AV.ok β' (C.gO β' (sset s id (.mp P k []))) (w.alloc (.map #[] 0)) (.mp id) (.map (some w.heap.size)):=by
 have hno:β id=.no:=by have:=h.inv.obs id;rw[hd]at this;exact this
 have hown:∀b o,¬own (gG β id (.CU w.heap.size)) [(id,.mp P k [])] b o:=fun b o ho=>by
  obtain⟨i,ho⟩:=ho;by_cases hi:i=id
  ·subst hi;simp[sat]at ho
  ·simp[sat,hi]at ho
 have hbl:∀b,gy (gG β id (.CU w.heap.size)) [(id,.mp P k [])] id b->b=w.heap.size:=fun b hb=>by simp[gy,sat,gG]at hb;exact hb.symm
 have m:mu β s w (gG β id (.CU w.heap.size)) (sset s id (.mp P k [])) (w.alloc (.map #[] 0)):=by
  refine⟨by simp,rfl,fun b o v hc _=>?_,fun b hb _=>b_ hb,fun b o ho=>?_,fun i b hb=>?_,fun i=>?_⟩
  ·rw[<-hc];exact cF (b_ (uZ hc))
  ·rcases sX ho with ho|ho
   ·exact .inl ho
   ·exact(hown _ _ ho).elim
  ·rcases jk hb with⟨_,hb⟩|⟨_,hb⟩
   ·exact .inl ⟨i,hb⟩
   ·exact .inr (dW (hbl b hb).symm)
  ·by_cases hi:i=id
   ·subst hi;rw[hno];trivial
   ·simp only[gG,hi,ay];exact .refl _
 refine⟨_,h.move m (fun i=>?_) (fun i j b hi hj=>?_),m,?_⟩
 ·rw[iE];by_cases hi:i=id
  ·subst hi;simp only[aj];exact⟨w.heap.size,by simp[gG],.map [],World.ownsMap_made w P k Bf,fun kl=>by simp[tZ,Maps.has]⟩
  ·simp only[hi,ay];exact(h.inv.obs i).sJ m (by simp[gG,hi]) (fun b hb=>b_ (h.inv.qo hb)) rfl
 ·rcases jk hi with⟨hi1,hi2⟩|⟨rfl,hi2⟩<;>rcases jk hj with⟨hj1,hj2⟩|⟨rfl,hj2⟩
  ·exact h.inv.inj i j b hi2 hj2
  ·have:=h.inv.qo hi2;have:=hbl b hj2;omega
  ·have:=h.inv.qo hj2;have:=hbl b hi2;omega
  ·rfl
 ·simp only[AV.ok];exact⟨w.heap.size,by simp[gG],rfl⟩
theorem AV.iS{β:gZ}{O:Own}{w:World}:∀{xs:List AV}{vs:List Value},AV.iK β O w xs vs->vs.length=xs.length
 |[],vs=>fun h=>by simp[AV.iK]at h;simp[h]
 |x::xs,vs=>fun h=>by
  simp only[AV.iK]at h;obtain⟨v,r,rfl,_,h3⟩:=h;simp[AV.iS h3]
theorem AV.kM{β:gZ}{O:Own}{w:World}:∀{xs:List AV}{vs:List Value},AV.iK β O w xs vs<->
 vs.length=xs.length/\∀(i:Nat)(x:AV)(v:Value),xs[i]?=some x->vs[i]?=some v->AV.ok β O w x v
 |[],vs=>by
  simp only[AV.iK];constructor
  ·rintro rfl;simp
  ·rintro⟨h,_⟩;exact bp.1 h
 |x::xs,vs=>by
  simp only[AV.iK];constructor
  ·rintro⟨v,r,rfl,h2,h3⟩;obtain⟨h4,h5⟩:=AV.kM.1 h3;refine⟨by simp[h4],fun i y u hy hu=>?_⟩;cases i with
   |zero=>simp at hy hu;subst hy;subst hu;exact h2
   |succ i=>simp at hy hu;exact h5 i y u hy hu
  ·rintro⟨h1,h2⟩;cases vs with
   |nil=>simp at h1
   |cons v r=>exact⟨v,r,rfl,h2 0 x v rfl rfl,AV.kM.2 ⟨by simpa using h1,fun i y u hy hu=>h2 (i+1) y u (by simpa using hy) (by simpa using hu)⟩⟩
theorem D.iS{O:Own}{w:World}:∀{xs:List D}{vs:List Value},D.iK O w xs vs->vs.length=xs.length
 |[],vs=>fun h=>by simp[D.iK]at h;simp[h]
 |x::xs,vs=>fun h=>by
  simp only[D.iK]at h;obtain⟨v,r,rfl,_,_,h3⟩:=h;simp[D.iS h3]
theorem D.kM{O:Own}{w:World}:∀{xs:List D}{vs:List Value},D.iK O w xs vs<->
 vs.length=xs.length/\∀(i:Nat)(x:D)(v:Value),xs[i]?=some x->vs[i]?=some v->one v=true/\D.ok O w x v
 |[],vs=>by
  simp only[D.iK];constructor
  ·rintro rfl;simp
  ·rintro⟨h,_⟩;exact bp.1 h
 |x::xs,vs=>by
  simp only[D.iK];constructor
  ·rintro⟨v,r,rfl,h0,h2,h3⟩;obtain⟨h4,h5⟩:=D.kM.1 h3;refine⟨by simp[h4],fun i y u hy hu=>?_⟩;cases i with
   |zero=>simp at hy hu;subst hy;subst hu;exact⟨h0,h2⟩
   |succ i=>simp at hy hu;exact h5 i y u hy hu
  ·rintro⟨h1,h2⟩;cases vs with
   |nil=>simp at h1
   |cons v r=>exact⟨v,r,rfl,(h2 0 x v rfl rfl).1,(h2 0 x v rfl rfl).2,D.kM.2 ⟨by simpa using h1,fun i y u hy hu=>h2 (i+1) y u (by simpa using hy) (by simpa using hu)⟩⟩
def cD:Value->D
 |.slice none 0 0=>.sl 0 (some true) []
 |v=>if one v then .lit v else .any
def NU:Value->AV
 |.agg cs=>if cs.toList.all one then .d (.agg (cs.toList.map cD))else .iN
 |.tuple _=>.iN
 |v=>.d (cD v)
theorem Hq{O:Own}{w:World}(v:Value)(h:one v=true):D.ok O w (cD v) v:=by
 unfold cD;split
 ·simp only[D.ok];exact⟨none,0,rfl,⟨aO _,gu⟩,⟨rfl,rfl⟩,.inl trivial⟩
 ·simp[h,D.ok]
theorem BK{O:Own}{w:World}:∀(vs:List Value),(∀v∈vs,one v=true)->D.iK O w (vs.map cD) vs
 |[],_=>by simp[D.iK]
 |v::vs,h=>by
  simp only[aT,D.iK];exact⟨v,vs,rfl,h v (by simp),Hq v (h v (by simp)),BK vs fun u hu=>h u (by simp[hu])⟩
theorem Uj{β:gZ}{O:Own}{w:World}(v:Value):AV.ok β O w (NU v) v:=by
 unfold NU;split
 ·split
  ·rename_i cs h;simp only[AV.ok,D.ok];exact⟨cs,rfl,BK _ fun v hv=>by simpa using cc.1 h v hv⟩
  ·simp[AV.ok]
 ·simp[AV.ok]
 ·rename_i h1 h2;simp only[AV.ok];exact Hq v (by cases v<;>simp_all[one])
def ev(env:List AV):Operand->AV
 |.tmp t=>env.getD t .iN
 |.const v=>NU v
 |.func f=>.fn f [] []
 |.global _=>.iN
theorem St.ev{C:Ctx}{β:gZ}{env:List AV}{s:gQ}{a:Act}{w:World}(h:St C β env s a w)(x:Operand):
 AV.ok β (C.gO β s) w (ev env x) (a.eval x):=by
 cases x with
 |tmp t=>
  simp only[oe.ev,Act.eval,List.getD];cases hx:env[t]? with
  |none=>simp[AV.ok]
  |some y=>exact h.env t y hx
 |const v=>exact Uj v
 |global g=>simp[oe.ev,AV.ok]
 |func f=>simp only[oe.ev,Act.eval,AV.ok,AV.iK];exact⟨#[],#[],rfl,rfl,rfl⟩
def mU(P:Program)(C:Ctx)(o:Oper)(env:List AV)(s:gQ)(k:List AV->gQ->Prop):Prop:=
 (∀c,o.op≠ .defer c)->∀Q β a w,St C β env s a w->o.wpIn C.vC 0 P a w (fun a' w'=>∃β' env' s',St C β' env' s' a' w'/\k env' s') Q
def iU(d:Option Nat)(env:List AV)(x:AV):List AV:=match d with|some d=>env.set d x|none=>env
theorem mU.value{P:Program}{C:Ctx}{o:Oper}{env:List AV}{s:gQ}{k:List AV->gQ->Prop}
 (h:∀β a w,St C β env s a w->∃v w' β' env' s' x,(execOp a.eval o).run P w=.ok (.value v) w'/\St C β' env' s' a w'/\
  AV.ok β' (C.gO β' s') w' x v/\k (iU o.dst env' x) s'):mU P C o env s k:=by
 intro hnd Q β a w hst;obtain⟨v,w',β',env',s',x,hr,h1,h2,h3⟩:=h β a w hst;refine⟨fun _ _=>trivial,?_⟩;rw[Oper.semAt_eq _ _ _ hnd,hr];exact⟨β',_,s',h1.put h2 o.dst,h3⟩
theorem mU.pure{P:Program}{C:Ctx}{o:Oper}{env:List AV}{s:gQ}{k:List AV->gQ->Prop}{x:AV}
 (h:∀β a w,St C β env s a w->∃v,(execOp a.eval o).run P w=.ok (.value v) w/\AV.ok β (C.gO β s) w x v)
 (hk:k (iU o.dst env x) s):mU P C o env s k:=
 .value fun β a w hst=>let⟨v,h1,h2⟩:=h β a w hst;⟨v,w,β,env,s,x,h1,hst,h2,hk⟩
theorem vz{β:gZ}{O:Own}{w:World}{x:AV}{v:Value}(h:AV.ok β O w x v){cs:List AV}(hc:x.cells=some cs):
 AV.iK β O w cs v.cells.toList/\∀u∈v.cells.toList,one u=true:=by
 have single:∀(y:AV),AV.ok β O w y v->(∀c,v≠ .agg c)->one v=true->AV.iK β O w [y] v.cells.toList/\∀u∈v.cells.toList,one u=true:=by
  intro y hy hn h1;have:v.cells=#[v]:=by cases v<;>simp_all[Value.cells]
  rw[this];exact⟨by simp only[AV.iK];exact⟨v,[],rfl,hy,rfl⟩,by simpa using h1⟩
 cases x with
 |iN=>simp[AV.cells]at hc
 |oz xs=>simp[AV.cells]at hc
 |agg xs=>
  simp only[AV.cells,aM]at hc;subst hc;simp only[AV.ok]at h;obtain⟨vs,rfl,h0,h1⟩:=h;exact⟨h1,h0⟩
 |d x=>
  cases x with
  |agg xs=>
   simp only[AV.cells,aM]at hc;subst hc;simp only[AV.ok,D.ok]at h;obtain⟨vs,rfl,h1⟩:=h;show AV.iK β O w (xs.map .d) vs.toList/\_;rw[D.kM]at h1;refine⟨AV.kM.2 ⟨by simp[h1.1],fun i y v hy hv=>?_⟩,fun u hu=>?_⟩
   ·rw[bA]at hy;cases hz:xs[i]? with
    |none=>rw[hz]at hy;cases hy
    |some z=>rw[hz]at hy;cases hy;exact(h1.2 i z v hz hv).2
   ·obtain⟨i,hi⟩:=cC hu;have hlt:i<xs.length:=by rw[<-h1.1];exact(aN.1 hi).1
    exact(h1.2 i _ u (aA hlt) hi).1
  |any=>
   simp only[AV.cells,aM]at hc;subst hc;simp only[AV.ok,D.ok]at h;exact single _ (by simpa[AV.ok,D.ok]using h) (by intro c e;subst e;simp[one]at h) h
  |lit u=>
   simp only[AV.cells,aM]at hc;subst hc;have h':=h;simp only[AV.ok,D.ok]at h;obtain⟨rfl,h1⟩:=h;exact single _ h' (by intro c e;subst e;simp[one]at h1) h1
  |sl e nl ys=>
   simp only[AV.cells,aM]at hc;subst hc;have h':=h;simp only[AV.ok,D.ok]at h;obtain⟨a,cap,rfl,_⟩:=h;exact single _ h' (by intro c e;cases e) rfl
 |own e id xs=>
  simp only[AV.cells,aM]at hc;subst hc;have h':=h;simp only[AV.ok,D.ok]at h;obtain⟨⟨a,cap,rfl,_⟩,_⟩:=h;exact single _ h' (by intro c e;cases e) rfl
 |ptr id off=>
  simp only[AV.cells,aM]at hc;subst hc;have h':=h;simp only[AV.ok]at h;obtain⟨b,_,rfl⟩:=h;exact single _ h' (by intro c e;cases e) rfl
 |tS e id off len=>
  simp only[AV.cells,aM]at hc;subst hc;have h':=h;simp only[AV.ok]at h;obtain⟨b,cap,_,_,rfl⟩:=h;exact single _ h' (by intro c e;cases e) rfl
 |pv cs'=>
  simp only[AV.cells,aM]at hc;subst hc;have h':=h;simp only[AV.ok]at h;obtain⟨b,o,vs,rfl,_⟩:=h;exact single _ h' (by intro c e;cases e) rfl
 |fn f a b=>
  simp only[AV.cells,aM]at hc;subst hc;have h':=h;simp only[AV.ok]at h;obtain⟨fs,cs',rfl,_⟩:=h;exact single _ h' (by intro c e;cases e) rfl
 |mL e id n=>
  simp only[AV.cells,aM]at hc;subst hc;have h':=h;simp only[AV.ok]at h;obtain⟨u,m,_,_,_,⟨_,rfl,_⟩|⟨b,cap,rfl,_⟩⟩:=h
  ·exact single _ h' (by intro c e;cases e) rfl
  ·exact single _ h' (by intro c e;cases e) rfl
 |mJ id k off=>
  simp only[AV.cells,aM]at hc;subst hc;have h':=h;simp only[AV.ok]at h;obtain⟨u,m,b,off',_,_,rfl,_⟩:=h;exact single _ h' (by intro c e;cases e) rfl
 |BZ e xs=>
  simp only[AV.cells,aM]at hc;subst hc;have h':=h;simp only[AV.ok]at h;obtain⟨a,rfl,_⟩:=h;exact single _ h' (by intro c e;cases e) rfl
 |nm u e xs=>
  simp only[AV.cells,aM]at hc;subst hc;have h':=h;simp only[AV.ok,D.ok]at h;obtain⟨_,a,cap,rfl,_⟩:=h;exact single _ h' (by intro c e;cases e) rfl
 |dp d=>simp[AV.cells]at hc
 |mp id=>
  simp only[AV.cells,aM]at hc;subst hc;have h':=h;simp only[AV.ok]at h;obtain⟨b,_,rfl⟩:=h;exact single _ h' (by intro c e;cases e) rfl
theorem LH:∀{cs:List AV}{ds:List D},AV.rf cs=some ds->cs=ds.map .d
 |[],ds=>fun h=>by simp only[AV.rf,aM]at h;subst h;rfl
 |.d x::xs,ds=>fun h=>by
  simp only[AV.rf,aH]at h;obtain⟨es,h1,rfl⟩:=h;simp[LH h1]
 |.iN::_,_=>fun h=>by simp[AV.rf]at h
 |.own .. ::_,_=>fun h=>by simp[AV.rf]at h
 |.ptr .. ::_,_=>fun h=>by simp[AV.rf]at h
 |.tS .. ::_,_=>fun h=>by simp[AV.rf]at h
 |.pv .. ::_,_=>fun h=>by simp[AV.rf]at h
 |.agg .. ::_,_=>fun h=>by simp[AV.rf]at h
 |.oz .. ::_,_=>fun h=>by simp[AV.rf]at h
 |.fn .. ::_,_=>fun h=>by simp[AV.rf]at h
 |.mL .. ::_,_=>fun h=>by simp[AV.rf]at h
 |.mJ .. ::_,_=>fun h=>by simp[AV.rf]at h
 |.BZ .. ::_,_=>fun h=>by simp[AV.rf]at h
 |.nm .. ::_,_=>fun h=>by simp[AV.rf]at h
 |.dp .. ::_,_=>fun h=>by simp[AV.rf]at h
 |.mp .. ::_,_=>fun h=>by simp[AV.rf]at h
theorem Lc{β:gZ}{O:Own}{w:World}{cs:List AV}{vs:Array Value}(h:AV.iK β O w cs vs.toList)(h1:∀u∈vs.toList,one u=true):
 AV.ok β O w (AV.mk cs) (.agg vs):=by
 unfold AV.mk;split
 ·rename_i ds hd;have:=LH hd;subst this;simp only[AV.ok,D.ok];refine⟨vs,rfl,?_⟩;rw[AV.kM]at h;rw[D.kM];refine⟨by simpa using h.1,fun i x v hx hv=>⟨h1 v (bV hv),?_⟩⟩;have:=h.2 i (.d x) v (by simp[hx]) hv;simpa[AV.ok]using this
 ·simp only[AV.ok];exact⟨vs,rfl,h1,h⟩
theorem Bn{β:gZ}{O:Own}{w:World}(n:Nat){xs:List AV}{vs:List Value}(h:AV.iK β O w xs vs):AV.iK β O w (xs.drop n) (vs.drop n):=by
 rw[AV.kM]at h⊢;exact⟨by simp[h.1],fun i x v hx hv=>h.2 (n+i) x v (by simpa using hx) (by simpa using hv)⟩
theorem x_{β:gZ}{O:Own}{w:World}(n:Nat){xs:List AV}{vs:List Value}(h:AV.iK β O w xs vs):AV.iK β O w (xs.take n) (vs.take n):=by
 rw[AV.kM]at h⊢;refine⟨by simp[h.1],fun i x v hx hv=>?_⟩;rw[bL]at hx hv;split at hx
 ·rename_i hi;rw[aE hi]at hv;exact h.2 i x v hx hv
 ·cases hx
theorem pR{β:gZ}{O:Own}{w:World}{xs ys:List AV}{vs us:List Value}(h:AV.iK β O w xs vs)(k:AV.iK β O w ys us):
 AV.iK β O w (xs++ys) (vs++us):=by
 induction xs generalizing vs with
 |nil=>simp only[AV.iK]at h;subst h;simpa using k
 |cons x xs ih=>
  simp only[AV.iK]at h;obtain⟨v,r,rfl,h1,h2⟩:=h;simp only[bH,AV.iK];exact⟨v,r++us,rfl,h1,ih h2⟩
theorem zL{O:Own}{w:World}(n:Nat){xs:List D}{vs:List Value}(h:D.iK O w xs vs):D.iK O w (xs.drop n) (vs.drop n):=by
 rw[D.kM]at h⊢;exact⟨by simp[h.1],fun i x v hx hv=>h.2 (n+i) x v (by simpa using hx) (by simpa using hv)⟩
theorem BO{O:Own}{w:World}(n:Nat){xs:List D}{vs:List Value}(h:D.iK O w xs vs):D.iK O w (xs.take n) (vs.take n):=by
 rw[D.kM]at h⊢;refine⟨by simp[h.1],fun i x v hx hv=>?_⟩;rw[bL]at hx hv;split at hx
 ·rename_i hi;rw[aE hi]at hv;exact h.2 i x v hx hv
 ·cases hx
theorem xB{P:Program}{t:TypeId}{i:TypeInfo}{ag:Bool}(hi:P.info? t=some i)
 (hg:(match P.underlying t with|some (.struct _)|some (.array _ _)=>some true|some _=>some false|none=>none)=some ag)
 (w:World) (b o:Nat) (vs:List Value) (hc:∀j v,vs[j]?=some v->w.cell? ⟨b,o+j,none⟩=some v) (hl:vs.length=if ag then i.size else 1):
 (loadVar t ⟨b,o,none⟩).run P w=.ok (if ag then .agg vs.toArray else vs.headD undef) w:=by
 cases ag with
 |true=>
  have hu:∃d,P.underlying t=some d/\((∃f,d=.struct f)\/∃n e,d=.array n e):=by
   cases hq:P.underlying t with
   |none=>simp[hq]at hg
   |some d=>rw[hq]at hg;cases d<;>simp at hg<;>exact⟨_,rfl,by simp⟩
  obtain⟨d,hd,h2⟩:=hu;have hag:∀w,(isAgg t).run P w=.ok true w:=by
   intro w;rcases h2 with⟨f,rfl⟩|⟨n,e,rfl⟩<;>simp[isAgg,aY hd]
  simp only[aj]at hl;have hl':=run_loadCells_list (P:=P) w ⟨b,o,none⟩ vs (fun j v hj=>by rw[dA];exact hc j v hj);rw[hl]at hl';simp[loadVar,hag,Go.sizeOf,typeInfo,hi,hl']
 |false=>
  have hu:∃d,P.underlying t=some d/\(∀f,d≠ .struct f)/\∀n e,d≠ .array n e:=by
   cases hq:P.underlying t with
   |none=>simp[hq]at hg
   |some d=>rw[hq]at hg;cases d<;>simp at hg<;>exact⟨_,rfl,by simp,by simp⟩
  obtain⟨d,hd,h2,h3⟩:=hu;have hag:∀w,(isAgg t).run P w=.ok false w:=by
   intro w;simp only[isAgg,aR,aY hd,aF];cases d<;>simp_all
  simp only[ah,ay]at hl
  match vs,hl with
  |[v],_=>
   have:=hc 0 v rfl;simp only[cP]at this;simp[loadVar,hag,this]
def AY(P:Program)(t:TypeId):Option Bool:=
 match P.underlying t with
 |some (.struct _)|some (.array _ _)=>some true
 |some _=>some false
 |none=>none
inductive tM where
 |mv (x:Operand)
 |pick (c a b:Operand)
 |alloc (id t:Nat) (z:List D)
 |box (id t:Nat) (x:Operand)
 |F6 (id d t:Nat) (x:Operand)
 |build (z:List D) (parts:List (Nat×Nat×Operand))
 |mH (id t e:Nat) (xs:List Operand)
 |yY (id t e:Nat) (xs:List Operand)
 |Ev (id t e:Nat) (xs:List Operand)
 |yu (id t e:Nat) (xs:List Operand)
 |zz (id t e bytes:Nat) (z:List D) (tok:Bool) (len cap:Operand)
 |Bk (id t e bytes:Nat) (z:List D) (tok:Bool) (len cap:Operand)
 |load (n:Nat) (ag:Bool) (p:Operand)
 |store (n:Nat) (p x:Operand)
 |rI (x:Operand)
 |bin (op:BinOp) (x y:Operand)
 |CO (neg:Bool) (x y:Operand)
 |xT (neg:Bool) (x:Operand)
 |un (op:UnOp) (x:Operand)
 |conv (k:IntKind) (x:Operand)
 |DS (f:Nat) (first cap:List Operand)
 |zy (id t e bytes:Nat) (z:List D) (tok:Bool) (len cap:Operand)
 |slc (x:Operand) (e:Nat) (lo hi mx:Option Operand)
 |GH (p:Operand) (e n:Nat) (lo hi mx:Option Operand)
 |QZ (off:Nat) (p:Operand)
 |Tn (off n:Nat) (ag:Bool) (x:Operand)
 |CY (e:Nat) (x i:Operand)
 |DJ (e n:Nat) (p i:Operand)
 |len (x:Operand)
 |lens (x:Operand)
 |ixs (x i:Operand)
 |T2 (x:Operand) (lo hi:Option Operand)
 |app (id t e bytes:Nat) (x y:Operand)
 |Et (id t e bytes:Nat) (x y:Operand)
 |CN (id t e bytes:Nat) (x y:Operand)
 |ji (f:Nat) (args:List Operand)
 |zk (g:Operand) (args:List Operand)
 |ext (x:Operand) (i:Nat)
 |max (x y:Operand)
 |min (x y:Operand)
 |DT (id k:Nat)
 |look (k:Nat) (kd:Option IntKind) (z:D) (ok:Bool) (m x:Operand)
 |J4 (k:Nat) (kd:Option IntKind) (m x v:Operand)
 |AB (k:Nat) (kd:Option IntKind) (m x:Operand)
 |Sv (x:Operand)
 |Iz (x:Operand) (e:Nat) (h:Operand)
 |Gt (t:Nat) (x:Operand)
 |dead
structure js where
 dst:Option Nat
 op:tM
 guard:Option (Option Nat×Bool)
inductive gR where
 |skip
 |gz (ops:List js)
 |draw (ops:List js) (after:List gh)
 |seq (a b:gR)
 |cond (c:Operand) (a b:gR)
 |block (id:Nat) (a:gR)
 |loop (a:gR)
 |exit (id:Nat)
 |ret
 |dead
 |ghost (a:gR)
 |U4 (g:Operand) (ps:List Nat) (a b:gR)
 |scope (a:gR)
 |label
def tM.erase:tM->tM
 |.yY id t e xs=>.mH id t e xs
 |.F6 _ d t x=>.box d t x
 |.Ev id t e xs=>.mH id t e xs
 |.yu id t e xs=>.mH id t e xs
 |.zz id t e b z tok l c=>.zy id t e b z tok l c
 |.Bk id t e b z tok l c=>.zy id t e b z tok l c
 |.Et id t e b x y=>.app id t e b x y
 |.CN id t e b x y=>.app id t e b x y
 |.Iz x e h=>.slc x e none (some h) none
 |x=>x
def js.erase(m:js):js:=⟨m.dst,m.op.erase,m.guard⟩
def gR.erase:gR->gR
 |.gz ms=>.gz (ms.map js.erase)
 |.draw ms af=>.draw (ms.map js.erase) af
 |.seq a b=>.seq a.erase b.erase
 |.cond c a b=>.cond c a.erase b.erase
 |.block id a=>.block id a.erase
 |.loop a=>.loop a.erase
 |.ghost a=>a.erase
 |.scope a=>.scope a.erase
 |.U4 g ps a b=>.U4 g ps a.erase b.erase
 |x=>x
def sL(P:Program)(t:Nat):Option (List D):=
 (P.info? t).bind fun i=>i.zero.bind fun z=>if z.cells.toList.all one&&z.cells.size==i.size then some (z.cells.toList.map cD)else none
def kZ(P:Program)(t:Nat):Option Nat:=(P.info? t).map (·.size)
def xD(P:Program)(t:Nat):Option Nat:=(P.info? t).map (·.bytes)
def E5(P:Program)(t:Nat):Option Nat:=match P.underlying t with|some (.slice e)=>some e|_=>none
def Gs(P:Program)(t:Nat):Option fR:=match P.underlying t with|some (.map k e)=>some (k,e)|_=>none
def HV(P:Program)(k:Nat):Option (Option IntKind):=match P.underlying k with|some .string=>some none|some (.int q)=>some (some q)|_=>none
def Ky(P:Program)(t:Nat):Option Value:=(P.info? t).bind fun i=>i.zero.bind fun u=>if one u then some u else none
def sI:Value->Lit
 |.string s=>.string s.data.toList
 |.int q a=>.int q a
 |_=>.nil
def uT:Option IntKind->Value->Prop
 |none,.string s=>s.size<=maxLen
 |some q,.int q' a=>q'=q/\(Lit.int q a).wf=true
 |_,_=>False
def B5(ok:Bool)(z:D)(o:Option D):AV:=if ok then .oz [.d (o.getD z),.d (.lit (.bool o.isSome))]else .d (o.getD z)
def Ay:D->Bool
 |.agg _=>true
 |_=>false
def partsOf(P:Program)(fs:Array Field)(p:Nat×Operand):Option (Nat×Nat×Operand):=
 (fs[p.1]?).bind fun(f:Field)=>(kZ P f.type).map fun n=>(f.offset,n,p.2)
def rW(n:Nat)(ps:List (Nat×Operand)):Option (List Operand):=
 if ps.map (·.1)=List.range n then some (ps.map (·.2))else none
def isZero:Operand->Bool
 |.const (.int _ 0)=>true
 |_=>false
def wK:Operand->Bool
 |.const (.slice none 0 0)=>true
 |_=>false
def yJ:Operand->Operand->Bool
 |.tmp a,.tmp b=>a==b
 |.const (.int j a),.const (.int k b)=>j==k&&a==b
 |_,_=>false
def enters(P:Program)(f:Nat):Bool:=
 match P.funcs[f]? with
 |some fn=>!(fn.name== "runtime.NumGoroutine")&&fn.body.isSome
 |none=>false
def oc(P:Program)(o:Oper):Option tM:=
 match o.op with
 |.move x|.assign x=>some (.mv x)
 |.pick c a b=>some (.pick c a b)
 |.alloc t=>o.dst.bind fun d=>(sL P t).map fun z=>.alloc d t z
 |.box t x=>o.dst.map fun d=>.box d t x
 |.build t ps=>
  match P.underlying t with
  |some (.struct fs)=>(sL P t).bind fun z=>
   if fs.toList.all (fun(f:Field)=>(kZ P f.type).isSome)then(ps.toList.mapM (partsOf P fs)).map fun qs=>.build z qs else none
  |some (.array _ e)=>if ps.toList.isEmpty then(kZ P e).bind fun _=>(sL P t).map fun z=>.build z []else none
  |_=>none
 |.buildSlice t n ps=>o.dst.bind fun d=>(E5 P t).bind fun e=>(kZ P e).bind fun sz=>(sL P e).bind fun _=>
  if n*sz<=2^24/\0<sz then(rW n ps.toList).map fun xs=>.mH d e sz xs else none
 |.load t p=>(kZ P t).bind fun n=>(AY P t).map fun ag=>.load (if ag then n else 1) ag p
 |.store t p x=>(kZ P t).map fun n=>.store n p x
 |.nilCheck x=>some (.rI x)
 |.binOp op t x y _=>
  match P.underlying t with
  |some (.int _)|some .string=>some (.bin op x y)
  |some .bool=>match op with|.eql=>some (.CO false x y)|.neq=>some (.CO true x y)|_=>none
  |some (.slice _)=>if wK y then(match op with|.eql=>some (.xT false x)|.neq=>some (.xT true x)|_=>none)else none
  |_=>none
 |.unOp op _ x=>some (.un op x)
 |.convert a b x=>
  match P.underlying a,P.underlying b with
  |some (.int _),some (.int k)=>some (.conv k x)
  |_,_=>none
 |.makeFunc (.func f) first cap=>some (.DS f first.toList cap.toList)
 |.makeSlice t l c=>o.dst.bind fun d=>(E5 P t).bind fun e=>(kZ P e).bind fun sz=>(xD P e).bind fun by'=>(sL P e).bind fun z=>
  if 0<sz then(if isZero l then some (.zy d e sz by' z true l c)else if yJ l c then some (.zy d e sz by' z false l c)else none)else none
 |.slice t x lo hi mx=>
  match P.underlying t with
  |some (.slice e)=>(kZ P e).map fun sz=>.slc x sz lo hi mx
  |some (.array n e)=>if n<2^62 then(kZ P e).map fun sz=>.GH x sz n lo hi mx else none
  |some .string=>match mx with|none=>some (.T2 x lo hi)|some _=>none
  |_=>none
 |.fieldAddr t p f=>
  match P.underlying t with
  |some (.struct fs)=>(fs[f]?).bind fun fd=>(kZ P fd.type).bind fun n=>if n=0 then none else some (.QZ fd.offset p)
  |_=>none
 |.field t x f=>
  match P.underlying t with
  |some (.struct fs)=>(fs[f]?).bind fun fd=>(kZ P fd.type).bind fun n=>(AY P fd.type).map fun ag=>.Tn fd.offset n ag x
  |_=>none
 |.indexAddr t x i=>
  match P.underlying t with
  |some (.slice e)=>(kZ P e).map fun sz=>.CY sz x i
  |some (.array n e)=>(kZ P e).map fun sz=>.DJ sz n x i
  |_=>none
 |.extract x i=>some (.ext x i)
 |.call c=>
  match c.callee with
  |.value (.func f)=>if enters P f then some (.ji f c.args.toList)else none
  |.value g=>some (.zk g c.args.toList)
  |.builtin .len=>match(c.argTypes[0]?).bind P.underlying,c.args.toList with
   |some (.slice _),[x]=>some (.len x)
   |some .string,[x]=>some (.lens x)
   |_,_=>none
  |.builtin .append=>match c.args.toList,c.argTypes[0]?,c.argTypes[1]? with
   |[x,y],some t,some u=>o.dst.bind fun d=>(E5 P t).bind fun e=>(E5 P u).bind fun _=>(kZ P e).bind fun sz=>(xD P e).bind fun by'=>(sL P e).bind fun _=>
    if 0<sz/\0<by' then some (.app d e sz by' x y)else none
   |_,_,_=>none
  |.builtin .max=>match c.args.toList with|[x,y]=>some (.max x y)|_=>none
  |.builtin .min=>match c.args.toList with|[x,y]=>some (.min x y)|_=>none
  |.builtin .delete=>match c.args.toList,c.argTypes.toList with
   |[m,x],[t,k]=>(Gs P t).bind fun p=>(HV P k).bind fun kd=>if p.1=k then some (.AB k kd m x)else none
   |_,_=>none
  |_=>none
 |.index t x i=>
  match P.underlying t with
  |some .string=>some (.ixs x i)
  |_=>none
 |.makeMap t none=>o.dst.bind fun d=>(Gs P t).map fun p=>.DT d p.1
 |.lookup t m x ok=>(Gs P t).bind fun p=>(HV P p.1).bind fun kd=>(Ky P p.2).map fun u=>.look p.1 kd (cD u) ok m x
 |.mapUpdate t m x v=>(Gs P t).bind fun p=>(HV P p.1).map fun kd=>.J4 p.1 kd m x v
 |.panic x=>some (.Sv x)
 |.makeInterface t x=>match P.underlying t with
  |some (.interface _)=>none
  |some _=>some (.Gt t x)
  |none=>none
 |_=>none
def vG(P:Program)(ops:Array Oper)(o:Oper):Option js:=
 some {dst:=o.dst,op:=(oc P o).getD .dead,guard:=o.guard.map fun(j,b)=>((ops[j]?).bind (·.dst),b)}
def pW(P:Program):Code->Option gR
 |.skip=>some .skip
 |.region _ ops draw=>(ops.toList.mapM (vG P ops)).map fun ms=>
  if draw then .draw ms (ops.toList.map fun o=>(o.after.toList.filter (Region.binds .any)).map (·.on))else .gz ms
 |.seq a b=>(pW P a).bind fun x=>(pW P b).map fun y=>.seq x y
 |.cond c a b=>(pW P a).bind fun x=>(pW P b).map fun y=>.cond c x y
 |.block id a=>(pW P a).map fun x=>.block id x
 |.loop a=>(pW P a).map fun x=>.loop x
 |.exit id=>some (.exit id)
 |.ret=>some .ret
 |.rangeFunc g ps a b=>(pW P a).bind fun x=>(pW P b).map fun y=>.U4 g ps.toList x y
 |.scope a=>(pW P a).map .scope
 |.label _=>some .label
 |_=>some .dead
def Br(b w:Bool)(A B:Prop):Prop:=if b=w then A else B
abbrev iD(n:Int):D:=.lit (.int .i64 n)
abbrev bD(b:Bool):D:=.lit (.bool b)
def rM:AV->Option (Nat×List D)
 |.d (.sl e _ xs)=>some (e,xs)
 |.own e _ xs=>some (e,xs)
 |.nm _ e xs=>some (e,xs)
 |_=>none
def y_:AV->Option Bool
 |.d (.sl _ (some b) _)=>some b
 |.tS .. =>some false
 |_=>none
def gD:D->List D
 |.agg cs=>cs
 |x=>[x]
mutual
def AV.fin:AV->Option D
 |.d x=>some x
 |.own e _ xs=>some (.sl e none xs)
 |.agg cs=>(AV.nC cs).map .agg
 |.iN=>none
 |.ptr _ _=>none
 |.tS _ _ _ _=>none
 |.pv _=>none
 |.oz _=>none
 |.fn _ _ _=>none
 |.mL _ _ _=>none
 |.mJ _ _ _=>none
 |.BZ _ _=>none
 |.nm _ _ _=>none
 |.dp _=>none
 |.mp _=>none
def AV.nC:List AV->Option (List D)
 |[]=>some []
 |x::xs=>(AV.fin x).bind fun y=>(AV.nC xs).map (y::·)
end
def Ob.kU:Ob->Bool
 |.dead=>true
 |_=>false
def uM(k0 id:Nat)(env:List AV)(s:gQ)(K:List AV->gQ->(AV->AV)->Prop):Prop:=
 k0<=id/\if(sat s id).kU then K env s (fun x=>x)else K (AV.gY (gC id) env) (gS id s) (AV.hG (gC id))
def Yw:BinOp->IntKind->IntKind->Prop
 |.shl,_,_=>True
 |.shr,_,_=>True
 |_,k,k'=>k=k'
def Dc(k:IntKind)(a b:Int):Int:=k.wrap (BitVec.ofInt k.bits a &&& BitVec.ofInt k.bits b).toNat
def Yy(k:IntKind)(a b:Int):Int:=k.wrap (BitVec.ofInt k.bits a ||| BitVec.ofInt k.bits b).toNat
def Ng(k:IntKind)(a b:Int):Int:=k.wrap (BitVec.ofInt k.bits a ^^^ BitVec.ofInt k.bits b).toNat
def KC(k:IntKind)(a b:Int):Int:=k.wrap (BitVec.ofInt k.bits a &&& ~~~BitVec.ofInt k.bits b).toNat
def SG(k:IntKind)(a b:Int):Int:=k.wrap (a*2^(min b.toNat k.bits))
def Iw(k:IntKind)(a b:Int):Int:=a.fdiv (2^(min b.toNat k.bits))
def Q9(op:BinOp)(x y:AV)(K:AV->Prop):Prop:=
 match x,y with
 |.d (.lit (.int k a)),.d (.lit (.int k' b))=>Yw op k k'/\
  match op with
  |.add=>K (.d (.lit (.int k (k.wrap (a+b)))))
  |.sub=>K (.d (.lit (.int k (k.wrap (a-b)))))
  |.mul=>K (.d (.lit (.int k (k.wrap (a*b)))))
  |.quo=>b≠0/\K (.d (.lit (.int k (k.wrap (a.tdiv b)))))
  |.rem=>b≠0/\K (.d (.lit (.int k (a.tmod b))))
  |.eql=>K (.d (bD (a==b)))
  |.neq=>K (.d (bD (a != b)))
  |.lss=>K (.d (bD (decide (a<b))))
  |.leq=>K (.d (bD (decide (a<=b))))
  |.gtr=>K (.d (bD (decide (b<a))))
  |.geq=>K (.d (bD (decide (b<=a))))
  |.and=>K (.d (.lit (.int k (Dc k a b))))
  |.or=>K (.d (.lit (.int k (Yy k a b))))
  |.xor=>K (.d (.lit (.int k (Ng k a b))))
  |.andNot=>K (.d (.lit (.int k (KC k a b))))
  |.shl=>0<=b/\K (.d (.lit (.int k (SG k a b))))
  |.shr=>0<=b/\K (.d (.lit (.int k (Iw k a b))))
 |.d (.lit (.string a)),.d (.lit (.string b))=>
  match op with
  |.add=>a.size+b.size<2^63/\K (.d (.lit (.string (a++b))))
  |.eql=>K (.d (bD (a.toList==b.toList)))
  |.neq=>K (.d (bD (!(a.toList==b.toList))))
  |_=>False
 |_,_=>False
def Iv(b:ByteArray)(i:Nat):Int:=(((b.data[i]?).getD 0).toNat:Int)
def kr:AV->Option Int
 |.d (.lit (.int _ n))=>some n
 |_=>none
def Ap(env:List AV)(dflt:Int):Option Operand->Option Int
 |none=>some dflt
 |some x=>kr (ev env x)
def hY(P:Program)(f:Nat)(args:List AV)(s:gQ)(k:Nat)(R:AV->gQ->Prop):Prop:=
 ∀(C:Ctx)(vs:Array Value),C.s=s->C.k=k->Inv C C.β C.s C.w->AV.iK C.β (C.gO C.β C.s) C.w args vs.toList->
  Calls P f vs C.w fun e w'=>∃v x β' s',e=.returned v/\Inv C β' s' w'/\AV.ok β' (C.gO β' s') w' x v/\R x s'
def Ob.hG(ρ:Nat->Option Nat):Ob->Ob
 |.obj t cs=>.obj t (AV.gY ρ cs)
 |.jj t e n cs=>.jj t e n (AV.gY ρ cs)
 |.oU e n cs=>.oU e n (AV.gY ρ cs)
 |x=>x
def oA:List fR->Nat->Option Nat
 |[],_=>none
 |(c,j)::r,i=>if i=c then some j else oA r i
def pV:List fR->Nat->Option Nat
 |[],_=>none
 |(c,j)::r,i=>if i=j then some c else pV r i
def oy(s:gQ)(pr mp:List fR):gQ:=mp.map fun(c,j)=>(c,(sat s j).hG (pV pr))
def tV(s s':gQ)(mp all:List fR):gQ:=
 match mp with
 |[]=>s
 |(c,j)::r=>tV (sset s j ((sat s' c).hG (oA all))) s' r all
def KW(P:Program)(k0 f:Nat)(args:List AV)(env:List AV)(s:gQ)(K:AV->List AV->gQ->Prop):Prop:=
 ∃(pr nw:List fR)(R:AV->gQ->Prop),
  pr.map (·.1)=List.range pr.length/\((pr++nw).map (·.1)).Nodup/\((pr++nw).map (·.2)).Nodup/\
  (∀p∈nw,sat s p.2=.dead/\k0<=p.2)/\
  hY P f (args.map fun x=>x.hG (pV pr)) (oy s pr pr) pr.length R/\
  ∀x s',R x s'->K (x.hG (oA (pr++nw))) env (tV s s' (pr++nw) (pr++nw))
def Cn(P:Program)(k0 f:Nat)(args:List AV)(env:List AV)(s:gQ)(K:AV->List AV->gQ->Prop):Prop:=
 ∀(C:Ctx)(β:gZ)(a:Act)(w:World)(vs:Array Value),C.k=k0->St C β env s a w->AV.iK β (C.gO β s) w args vs.toList->
  Calls P f vs w fun e w'=>∃v x β' env' s',e=.returned v/\St C β' env' s' a w'/\AV.ok β' (C.gO β' s') w' x v/\K x env' s'
def RZ(e:Nat)(x i:AV)(K:AV->Prop):Prop:=
 match kr i with
 |none=>False
 |some n=>match x with
  |.tS e' id off len=>e'=e/\0<=n/\n<len/\K (.ptr id (off+n.toNat*e))
  |.mL e' id m=>e'=e/\0<=n/\n<m/\K (.mJ id m (n.toNat*e))
  |x=>match rM x with
   |some (e',xs)=>e'=e/\0<=n/\n<xs.length/\K (.pv (gD (xs.getD n.toNat .any)))
   |none=>False
def CQ:AV->Bool
 |.dp _=>true
 |_=>false
def uN(cs:List AV):Bool:=cs.all fun x=>!CQ x
def sv(n:Nat)(ag:Bool)(p:AV)(s:gQ)(K:AV->Prop):Prop:=
 match p with
 |.ptr id off=>match sat s id with
  |.obj _ cs=>off+n<=cs.length/\K (if ag then AV.mk ((cs.drop off).take n)else cs.getD off .iN)
  |_=>False
 |.pv cs=>n<=cs.length/\K (.d (if ag then .agg (cs.take n)else cs.headD .any))
 |.mJ id k off=>match sat s id with
  |.lO _ _ m cs=>m=k/\off+n<=cs.length/\K (.d (if ag then .agg ((cs.drop off).take n)else cs.getD off .any))
  |.oU _ m cs=>m=k/\off+n<=cs.length/\ag=false/\n=1/\CQ (cs.getD off .iN)=false/\K (cs.getD off .iN)
  |_=>False
 |_=>False
def GK(n:Nat)(p x:AV)(s:gQ)(K:gQ->Prop):Prop:=
 match p with
 |.ptr id off=>match sat s id with
  |.obj t cs=>match x.cells with
   |some xs=>xs.length=n/\off+n<=cs.length/\K (sset s id (.obj t (cs.take off++xs++cs.drop (off+n))))
   |none=>False
  |_=>False
 |.mJ id k off=>match sat s id with
  |.lO t e m cs=>match x.fin with
   |some d=>m=k/\(gD d).length=n/\off+n<=cs.length/\K (sset s id (.lO t e m (cs.take off++gD d++cs.drop (off+n))))
   |none=>False
  |.oU e m cs=>match x.cells with
   |some xs=>m=k/\xs.length=n/\0<n/\off+n<=cs.length/\uN xs=true/\K (sset s id (.oU e m (cs.take off++xs++cs.drop (off+n))))
   |none=>False
  |_=>False
 |_=>False
def qp(env:List AV):List AV->List (Nat×Nat×Operand)->Option (List AV)
 |cs,[]=>some cs
 |cs,(off,n,x)::r=>match(ev env x).cells with
  |some xs=>if xs.length=n/\off+n<=cs.length then qp env (cs.take off++xs++cs.drop (off+n)) r else none
  |none=>none
def AV.ni:AV->Option (List AV)
 |.d (.agg cs)=>some (cs.map .d)
 |.agg cs=>some cs
 |_=>none
def SK(x:AV)(lo hi:Option Int)(K:AV->Prop):Prop:=
 match rM x,lo,hi with
 |some (e,xs),some l,some h=>0<=l/\l<=h/\h<=xs.length/\K (.d (.sl e (y_ x) ((xs.take h.toNat).drop l.toNat)))
 |_,_,_=>False
def LR(id t e bytes k0:Nat)(x y:AV)(env:List AV)(s:gQ)(K:AV->List AV->gQ->Prop):Prop:=
 match rM y with
 |none=>False
 |some (e2,ys)=>(ys=[]\/e2=e)/\
  match x with
  |.own e' j xs=>e'=e/\sat s j=.tok t e xs.length/\(xs.length+ys.length)*bytes<=2^47/\
   K (.own e j (xs++ys)) env (sset s j (.tok t e (xs.length+ys.length)))
  |.mL e' j n=>e'=e/\(match sat s j with
   |.lO t' e2 m cs=>t'=t/\e2=e/\m=n/\(n+ys.length)*bytes<=2^47/\
    K (.mL e j (n+ys.length)) env (sset s j (.lO t e (n+ys.length) (cs++ys.flatMap gD)))
   |.oU e2 m cs=>e2=e/\m=n/\(n+ys.length)*bytes<=2^47/\
    K (.mL e j (n+ys.length)) env (sset s j (.oU e (n+ys.length) (cs++(ys.flatMap gD).map .d)))
   |_=>False)
  |.d (.sl _ (some true) [])=>ys.length*bytes<=2^47/\uM k0 id env s fun env s _=>K (.own e id ys) env (sset s id (.tok t e ys.length))
  |.BZ e' xs=>e'=e/\(xs.length+ys.length)*bytes<=2^47/\K (.d (.sl e none (xs++ys))) env s
  |_=>False
def Ho(id t e bytes k0:Nat)(x y:AV)(env:List AV)(s:gQ)(K:AV->List AV->gQ->Prop):Prop:=
 match rM y,x with
 |some (e2,ys),.d (.sl _ (some true) [])=>(ys=[]\/e2=e)/\ys.length*bytes<=2^47/\
  uM k0 id env s fun env s _=>K (.mL e id ys.length) env (sset s id (.lO t e ys.length (ys.flatMap gD)))
 |_,x=>LR id t e bytes k0 x y env s K
def AV.flat(e:Nat):List AV->Option (List AV)
 |[]=>some []
 |x::xs=>match x.cells,AV.flat e xs with
  |some c,some r=>if c.length=e then some (c++r)else none
  |_,_=>none
def KE(t e bytes:Nat)(x y:AV)(env:List AV)(s:gQ)(K:AV->List AV->gQ->Prop):Prop:=
 match x,y with
 |.own e' j xs,.own e2 j2 ys=>e'=e/\e2=e/\j≠j2/\ys≠[]/\(xs.length+ys.length)*bytes<=2^47/\
  match sat s j,sat s j2 with
  |.jj t1 e3 n cs,.jj t2 e4 m cs2=>t1=t/\e3=e/\n=xs.length/\e4=e/\m=ys.length/\
   K (.own e j (xs++ys)) env (sset (sset s j (.jj t e (xs.length+ys.length) (cs++cs2))) j2 (.jj t2 e ys.length (List.replicate cs2.length .iN)))
  |_,_=>False
 |_,_=>False
def NP(id t e k0:Nat)(ds:Option (List D))(cs:Option (List AV))(env:List AV)(s:gQ)(K:AV->List AV->gQ->Prop):Prop:=
 match ds,cs with
 |some ds,some cs=>(∀d∈ds,(gD d).length=e)/\uN cs=true/\k0<=id/\(if(sat s id).kU then K (.own e id ds) env (sset s id (.jj t e ds.length cs))
  else K (.own e id ds) (AV.gY (gC id) env) (sset (gS id s) id (.jj t e ds.length (cs.map (AV.hG (gC id))))))
 |_,_=>False
def OR(a b:Nat):Nat:=min a b
def Wt(n e:Nat)(cs:List D):List D:=cs.take (n*e)
def Sw(k0:Nat)(e e' j n:Nat)(h:Int)(env:List AV)(s:gQ)(K:AV->List AV->gQ->Prop):Ob->Prop
 |.lO t e2 m cs=>e'=e/\e2=e/\n=m/\0<=h/\h<=m/\k0<=j/\K (.mL e j (OR h.toNat m)) (AV.gY (gC j) env) (sset (gS j s) j (.lO t e (OR h.toNat m) (Wt h.toNat e cs)))
 |_=>False
def oV(P:Program)(k0:Nat)(m:tM)(env:List AV)(s:gQ)(K:AV->List AV->gQ->Prop):Prop:=
 match m with
 |.mv x=>K (ev env x) env s
 |.pick c a b=>match ev env c with
  |.d (.lit (.bool t))=>Br t true (K (ev env a) env s) (K (ev env b) env s)
  |_=>False
 |.alloc id t z=>uM k0 id env s fun env s _=>K (.ptr id 0) env (sset s id (.obj t (z.map .d)))
 |.F6 id _ t x=>match(ev env x).cells with
  |some cs=>uM k0 id env s fun env' s' f=>K (.ptr id 0) env' (sset s' id (.obj t (cs.map f)))
  |none=>False
 |.box id t x=>match(ev env x).cells with
  |some cs=>uM k0 id env s fun env' s' f=>K (.ptr id 0) env' (sset s' id (.obj t (cs.map f)))
  |none=>False
 |.build z ps=>match qp env (z.map .d) ps with
  |some cs=>K (AV.mk cs) env s
  |none=>False
 |.mH id t e xs=>match AV.nC (xs.map (ev env))with
  |some ds=>(∀d∈ds,(gD d).length=e)/\uM k0 id env s fun env s _=>K (.own e id ds) env (sset s id (.tok t e ds.length))
  |none=>False
 |.yY id t e xs=>match AV.nC (xs.map (ev env))with
  |some ds=>(∀d∈ds,(gD d).length=e)/\uM k0 id env s fun env s _=>K (.mL e id ds.length) env (sset s id (.lO t e ds.length (ds.flatMap gD)))
  |none=>False
 |.Ev id t e xs=>match AV.flat e (xs.map (ev env))with
  |some cs=>uM k0 id env s fun env s f=>K (.tS e id 0 xs.length) env (sset s id (.obj t (cs.map f)))
  |none=>False
 |.yu id t e xs=>NP id t e k0 (AV.nC (xs.map (ev env))) (AV.flat e (xs.map (ev env))) env s K
 |.load n ag p=>sv n ag (ev env p) s fun x=>K x env s
 |.store n p x=>GK n (ev env p) (ev env x) s fun s=>K .iN env s
 |.rI x=>match ev env x with
  |.ptr id off=>K (.ptr id off) env s
  |.pv cs=>K (.pv cs) env s
  |.fn f a b=>K (.fn f a b) env s
  |.mJ id m off=>K (.mJ id m off) env s
  |_=>False
 |.bin op x y=>Q9 op (ev env x) (ev env y) fun r=>K r env s
 |.CO neg x y=>match ev env x,ev env y with
  |.d (.lit (.bool a)),.d (.lit (.bool b))=>K (.d (bD (if neg then a != b else a==b))) env s
  |_,_=>False
 |.xT neg x=>match y_ (ev env x)with
  |some b=>K (.d (bD (if neg then !b else b))) env s
  |none=>match rM (ev env x)with
   |some (_,xs)=>(xs=[]->K (.d (bD (if neg then !true else true))) env s)/\K (.d (bD (if neg then !false else false))) env s
   |none=>False
 |.un op x=>match op,ev env x with
  |.not,.d (.lit (.bool b))=>K (.d (bD (!b))) env s
  |.neg,.d (.lit (.int k n))=>K (.d (.lit (.int k (k.wrap (0-n))))) env s
  |_,_=>False
 |.conv k x=>match ev env x with
  |.d (.lit (.int _ n))=>K (.d (.lit (.int k (k.wrap n)))) env s
  |_=>False
 |.DS f first cap=>K (.fn f (first.map (ev env)) (cap.map (ev env))) env s
 |.zz _ _ e bytes z tok len cap=>match kr (ev env len),kr (ev env cap),z with
  |some l,some c,[zd]=>e=1/\tok=false/\0<=l/\l<=c/\bytes*c<=2^48/\c<2^62/\K (.d (.sl 1 none (List.replicate l.toNat zd))) env s
  |_,_,_=>False
 |.Bk id _ e bytes z tok len cap=>match kr (ev env len),kr (ev env cap)with
  |some l,some c=>tok=false/\0<e/\0<=l/\l<=c/\bytes*c<=2^48/\c<2^62/\k0<=id/\(sat s id).kU=true/\K (.mL e id l.toNat) env (sset s id (.oU e l.toNat ((List.replicate l.toNat (z.map .d)).flatten)))
  |_,_=>False
 |.zy id t e bytes z tok len cap=>match kr (ev env len),kr (ev env cap)with
  |some l,some c=>0<=l/\l<=c/\bytes*c<=2^48/\c<2^62/\uM k0 id env s fun env s _=>
   if tok then K (.own e id []) env (sset s id (.tok t e 0))
   else K (.tS e id 0 l.toNat) env (sset s id (.obj t ((List.replicate l.toNat (z.map .d)).flatten)))
  |_,_=>False
 |.slc x e lo hi mx=>match rM (ev env x)with
  |some (e',xs)=>match mx with
   |none=>(xs=[]\/e'=e)/\SK (ev env x) (Ap env 0 lo) (Ap env xs.length hi) fun r=>K r env s
   |some m=>lo=none/\∃hh h,hi=some hh/\kr (ev env hh)=some h/\kr (ev env m)=some h/\(xs=[]\/e'=e)/\0<=h/\h<=xs.length/\K (.BZ e' (xs.take h.toNat)) env s
  |none=>False
 |.GH p e n lo hi mx=>match ev env p,lo,hi,mx with
  |.ptr id off,none,none,none=>K (.tS e id off n) env s
  |.ptr id off,none,some h,none=>match kr (ev env h)with
   |some h=>0<=h/\h<=n/\K (.tS e id off h.toNat) env s
   |none=>False
  |_,_,_,_=>False
 |.QZ off p=>match ev env p with
  |.ptr id o=>K (.ptr id (o+off)) env s
  |.pv cs=>K (.pv (cs.drop off)) env s
  |.mJ id k o=>K (.mJ id k (o+off)) env s
  |_=>False
 |.Tn off n ag x=>match(ev env x).ni with
  |some cs=>off+(if ag then n else 1)<=cs.length/\K (if ag then AV.mk ((cs.drop off).take n)else cs.getD off .iN) env s
  |none=>False
 |.CY e x i=>RZ e (ev env x) (ev env i) fun r=>K r env s
 |.DJ e n p i=>match kr (ev env i),ev env p with
  |some j,.ptr id off=>0<=j/\j<n/\K (.ptr id (off+j.toNat*e)) env s
  |some j,.pv cs=>0<=j/\j<n/\K (.pv (cs.drop (j.toNat*e))) env s
  |_,_=>False
 |.len x=>match ev env x with
  |.tS _ _ _ n=>K (.d (iD n)) env s
  |.mL _ _ n=>K (.d (iD n)) env s
  |x=>match rM x with
   |some (_,xs)=>K (.d (iD xs.length)) env s
   |none=>False
 |.lens x=>match ev env x with
  |.d (.lit (.string b))=>K (.d (iD b.size)) env s
  |_=>False
 |.ixs x i=>match ev env x,ev env i with
  |.d (.lit (.string b)),.d (.lit (.int _ n))=>0<=n/\n<b.size/\K (.d (.lit (.int .u8 (Iv b n.toNat)))) env s
  |_,_=>False
 |.T2 x lo hi=>match ev env x with
  |.d (.lit (.string b))=>match Ap env 0 lo,Ap env b.size hi with
   |some l,some h=>0<=l/\l<=h/\h<=b.size/\K (.d (.lit (.string (b.extract l.toNat h.toNat)))) env s
   |_,_=>False
  |_=>False
 |.app id t e bytes x y=>LR id t e bytes k0 (ev env x) (ev env y) env s K
 |.Et id t e bytes x y=>Ho id t e bytes k0 (ev env x) (ev env y) env s K
 |.CN _ t e bytes x y=>KE t e bytes (ev env x) (ev env y) env s K
 |.ji f args=>Cn P k0 f (args.map (ev env)) env s K
 |.zk g args=>match ev env g with
  |.fn f first cap=>enters P f=true/\Cn P k0 f (first++args.map (ev env)++cap) env s K
  |_=>False
 |.ext x i=>match ev env x with
  |.oz cs=>i<cs.length/\K (cs.getD i .iN) env s
  |_=>False
 |.max x y=>match ev env x,ev env y with
  |.d (.lit (.int k a)),.d (.lit (.int k' b))=>k=k'/\K (.d (.lit (.int k (if b>a then b else a)))) env s
  |_,_=>False
 |.min x y=>match ev env x,ev env y with
  |.d (.lit (.int k a)),.d (.lit (.int k' b))=>k=k'/\K (.d (.lit (.int k (if b<a then b else a)))) env s
  |_,_=>False
 |.DT id k=>uM k0 id env s fun env s _=>K (.mp id) env (sset s id (.mp P k []))
 |.look k kd z ok m x=>match ev env m,ev env x with
  |.mp id,.d (.lit kv)=>match sat s id with
   |.mp P' k' es=>P'=P/\k'=k/\uT kd kv/\K (B5 ok z (tZ es (sI kv))) env s
   |_=>False
  |_,_=>False
 |.J4 k kd m x v=>match ev env m,ev env x,(ev env v).fin with
  |.mp id,.d (.lit kv),some d=>match sat s id with
   |.mp P' k' es=>P'=P/\k'=k/\uT kd kv/\es.length<2^40/\Ay d=false/\K .iN env (sset s id (.mp P k ((sI kv,d)::es)))
   |_=>False
  |_,_,_=>False
 |.AB k kd m x=>match ev env m,ev env x with
  |.mp id,.d (.lit kv)=>match sat s id with
   |.mp P' k' es=>P'=P/\k'=k/\uT kd kv/\K (.oz []) env (sset s id (.mp P k (AB (sI kv) es)))
   |_=>False
  |_,_=>False
 |.Sv _=>False
 |.Iz x e y=>match ev env x,kr (ev env y)with
  |.mL e' j n,some h=>Sw k0 e e' j n h env s K (sat s j)
  |_,_=>False
 |.Gt t x=>ev env x=.d (.agg [])/\K (.d (.lit (.iface t (.agg #[])))) env s
 |.dead=>False
theorem Lo{O:Own}{w:World}{b e:Nat}:∀{xs:List D}{o i:Nat}{x:D},D.row O w b o e xs->xs[i]?=some x->
 ∃vs,vs.length=e/\jW O w b (o+i*e) vs/\D.IZ O w x vs
 |[],_,_,_=>fun _ h=>by simp at h
 |y::ys,o,0,x=>fun h hx=>by
  rw[D.oq]at h;simp at hx;subst hx;obtain⟨vs,h1,h2,h3⟩:=h.1;exact⟨vs,h1,by simpa using h2,h3⟩
 |y::ys,o,i+1,x=>fun h hx=>by
  rw[D.oq]at h;obtain⟨vs,h1,h2,h3⟩:=Lo h.2 (by simpa using hx);refine⟨vs,h1,?_,h3⟩;have:o+e+i*e=o+(i+1)*e:=by rw[bk];omega
  rwa [this]at h2
theorem KX{O:Own}{w:World}{b o:Nat}{x:D}{vs:List Value}(h:D.IZ O w x vs)(hc:jW O w b o vs):D.iK O w (gD x) vs:=by
 cases x with
 |agg cs=>exact h
 |any=>obtain⟨v,rfl,h⟩:=h;simp only[gD,D.iK];exact⟨v,[],rfl,(hc 0 v rfl).2.2,h,rfl⟩
 |lit u=>obtain⟨v,rfl,h⟩:=h;simp only[gD,D.iK];exact⟨v,[],rfl,(hc 0 v rfl).2.2,h,rfl⟩
 |sl e nl ys=>obtain⟨v,rfl,h⟩:=h;simp only[gD,D.iK];exact⟨v,[],rfl,(hc 0 v rfl).2.2,h,rfl⟩
theorem Li{O:Own}{w:World}{x:D}{vs:List Value}(h:D.iK O w (gD x) vs):D.IZ O w x vs:=by
 cases x with
 |agg cs=>exact h
 |any=>simp only[gD,D.iK]at h;obtain⟨v,r,rfl,_,h,rfl⟩:=h;exact⟨v,rfl,h⟩
 |lit u=>simp only[gD,D.iK]at h;obtain⟨v,r,rfl,_,h,rfl⟩:=h;exact⟨v,rfl,h⟩
 |sl e nl ys=>simp only[gD,D.iK]at h;obtain⟨v,r,rfl,_,h,rfl⟩:=h;exact⟨v,rfl,h⟩
theorem zH{β:gZ}{O:Own}{w:World}{x:AV}{v:Value}{e:Nat}{xs:List D}(h:AV.ok β O w x v)(hs:rM x=some (e,xs)):
 ∃a cap,v=.slice a xs.length cap/\KA xs.length cap/\(∀b,y_ x=some b->LM (some b) a cap)/\(xs=[]\/∃b o,a=some ⟨b,o,none⟩/\D.row O w b o e xs):=by
 cases x with
 |d x=>
  cases x with
  |sl e' nl ys=>
   simp only[rM,aM,cI]at hs;obtain⟨rfl,rfl⟩:=hs;simp only[AV.ok,D.ok]at h;obtain⟨a,cap,h1,h2,h3,h4⟩:=h;refine⟨a,cap,h1,h2,fun b hb=>?_,h4⟩;cases nl with
   |some b'=>simp only[y_,aM]at hb;subst hb;exact h3
   |none=>simp[y_]at hb
  |any=>simp[rM]at hs
  |lit u=>simp[rM]at hs
  |agg cs=>simp[rM]at hs
 |own e' id ys=>
  simp only[rM,aM,cI]at hs;obtain⟨rfl,rfl⟩:=hs;simp only[AV.ok,D.ok]at h;obtain⟨⟨a,cap,h1,h2,_,h4⟩,_⟩:=h;refine⟨a,cap,h1,h2,fun b hb=>?_,h4⟩;simp[y_]at hb
 |iN=>simp[rM]at hs
 |ptr id off=>simp[rM]at hs
 |tS e id off len=>simp[rM]at hs
 |pv cs=>simp[rM]at hs
 |agg cs=>simp[rM]at hs
 |oz cs=>simp[rM]at hs
 |fn f a b=>simp[rM]at hs
 |mL e id n=>simp[rM]at hs
 |mJ id k off=>simp[rM]at hs
 |BZ e xs=>simp[rM]at hs
 |nm u e' ys=>
  simp only[rM,aM,cI]at hs;obtain⟨rfl,rfl⟩:=hs;simp only[AV.ok,D.ok]at h;obtain⟨_,a,cap,h1,h2,_,h4⟩:=h;refine⟨a,cap,h1,h2,fun b hb=>?_,h4⟩;simp[y_]at hb
 |dp d=>simp[rM]at hs
 |mp id=>simp[rM]at hs
theorem UZ{β:gZ}{O:Own}{w:World}{x:AV}{v:Value}{t:Bool}(h:AV.ok β O w x v)(hn:y_ x=some t):
 ∃a n cap,v=.slice a n cap/\a.isNone=t:=by
 cases hs:rM x with
 |some p=>
  obtain⟨e,xs⟩:=p;obtain⟨a,cap,h1,_,h3,_⟩:=zH h hs;refine⟨a,_,cap,h1,?_⟩;have:=h3 t hn;cases t with
  |true=>rw[this.1];rfl
  |false=>cases a with
   |none=>exact absurd rfl this
   |some a=>rfl
 |none=>
  cases x with
  |tS e id off len=>
   simp only[y_,aM]at hn;subst hn;simp only[AV.ok]at h;obtain⟨b,cap,_,_,rfl⟩:=h;exact⟨_,_,_,rfl,rfl⟩
  |d x=>cases x<;>simp_all[rM,y_]
  |own e id xs=>simp[rM]at hs
  |iN=>simp[y_]at hn
  |ptr id off=>simp[y_]at hn
  |pv cs=>simp[y_]at hn
  |agg cs=>simp[y_]at hn
  |oz cs=>simp[y_]at hn
  |fn f a b=>simp[y_]at hn
  |mL e id n=>simp[y_]at hn
  |mJ id k off=>simp[y_]at hn
  |BZ e xs=>simp[y_]at hn
  |nm u e xs=>simp[y_]at hn
  |dp d=>simp[y_]at hn
  |mp id=>simp[y_]at hn
theorem uu{β:gZ}{O:Own}{w:World}{x:AV}{v:Value}{n:Int}(h:AV.ok β O w x v)(hn:kr x=some n):∃k,v=.int k n:=by
 cases x with
 |d x=>
  cases x with
  |lit u=>
   simp only[AV.ok,D.ok]at h;obtain⟨h,_⟩:=h;subst h;cases v<;>simp[kr]at hn
   subst hn;exact⟨_,rfl⟩
  |any=>simp[kr]at hn
  |sl e nl xs=>simp[kr]at hn
  |agg cs=>simp[kr]at hn
 |own e id xs=>simp[kr]at hn
 |tS e id off len=>simp[kr]at hn
 |iN=>simp[kr]at hn
 |ptr id off=>simp[kr]at hn
 |pv cs=>simp[kr]at hn
 |agg cs=>simp[kr]at hn
 |oz cs=>simp[kr]at hn
 |fn f a b=>simp[kr]at hn
 |mL e id n=>simp[kr]at hn
 |mJ id k off=>simp[kr]at hn
 |BZ e xs=>simp[kr]at hn
 |nm u e xs=>simp[kr]at hn
 |dp d=>simp[kr]at hn
 |mp id=>simp[kr]at hn
theorem ow{β:gZ}{O:Own}{w:World}{u v:Value}(h:AV.ok β O w (.d (.lit u)) v):v=u:=by simp only[AV.ok,D.ok]at h;exact h.1
theorem uF{β:gZ}{O:Own}{w:World}{u:Value}(h:one u=true):AV.ok β O w (.d (.lit u)) u:=by simp[AV.ok,D.ok,h]
section
variable{P:Program}{C:Ctx}{o:Oper}{env:List AV}{s:gQ}{k:List AV->gQ->Prop}
theorem Yd{x:Operand}(hop:o.op=.move x\/o.op=.assign x)(hk:k (iU o.dst env (ev env x)) s):mU P C o env s k:=
 .pure (fun β a w hst=>⟨a.eval x,by rcases hop with h|h<;>simp[execOp,h],hst.ev x⟩) hk
theorem Vi{c x y:Operand}(hop:o.op=.pick c x y){t:Bool}(hc:ev env c=.d (.lit (.bool t)))
 (hk:Br t true (k (iU o.dst env (ev env x)) s) (k (iU o.dst env (ev env y)) s)):mU P C o env s k:=by
 unfold Br at hk;refine .value fun β a w hst=>?_
 have h1:=hst.ev c;rw[hc]at h1;have h1:=ow h1;cases t with
 |true=>exact⟨a.eval x,w,β,env,s,_,by simp[execOp,hop,h1,asBool],hst,hst.ev x,by simpa using hk⟩
 |false=>exact⟨a.eval y,w,β,env,s,_,by simp[execOp,hop,h1,asBool],hst,hst.ev y,by simpa using hk⟩
theorem nE{t:Nat}{z:List D}(h:sL P t=some z):∃i u,P.info? t=some i/\i.zero=some u/\u.cells.size=i.size/\
 (∀v∈u.cells.toList,one v=true)/\z=u.cells.toList.map cD:=by
 unfold sL at h;cases hi:P.info? t with
 |none=>simp[hi]at h
 |some i=>
  cases hz:i.zero with
  |none=>simp[hi,hz]at h
  |some u=>
   simp only[hi,hz,aa]at h;split at h
   ·rename_i hc;simp only[bq,eR]at hc;cases h;exact⟨i,u,rfl,hz,hc.2,fun v hv=>by simpa using cc.1 hc.1 v hv,rfl⟩
   ·cases h
theorem Hv{β:gZ}{O:Own}{w:World}{ds:List D}{vs:List Value}(h:D.iK O w ds vs):AV.iK β O w (ds.map .d) vs:=by
 rw[D.kM]at h;refine AV.kM.2 ⟨by simp[h.1],fun i x v hx hv=>?_⟩;rw[bA]at hx;cases hz:ds[i]? with
 |none=>rw[hz]at hx;cases hx
 |some z=>rw[hz]at hx;cases hx;exact(h.2 i z v hz hv).2
theorem pQ{id:Nat}{K:List AV->gQ->(AV->AV)->Prop}(h:uM C.k id env s K){β:gZ}{a:Act}{w:World}(hst:St C β env s a w):
 ∃β' env' s' f,St C β' env' s' a w/\sat s' id=.dead/\K env' s' f/\(∀x v,AV.ok β (C.gO β s) w x v->AV.ok β' (C.gO β' s') w (f x) v)/\
  ∀b o,C.gO β' s' b o->C.gO β s b o:=by
 unfold uM at h;obtain⟨h1,h2⟩:=h;split at h2
 ·rename_i hd;refine⟨β,env,s,_,hst,?_,h2,fun x v hx=>hx,fun _ _ h=>h⟩;cases hs:sat s id<;>simp_all[Ob.kU]
 ·exact⟨_,_,_,_,hst.kill id h1,by rw[sd];simp,h2,fun x v hx=>xo hx,fun _ _ h=>h.imp (fun x=>x) uH⟩
theorem Bo{β β':gZ}{O O':Own}{w:World}{f:AV->AV}(hf:∀x v,AV.ok β O w x v->AV.ok β' O' w (f x) v){xs:List AV}{vs:List Value}
 (h:AV.iK β O w xs vs):AV.iK β' O' w (xs.map f) vs:=by
 rw[AV.kM]at h⊢;refine⟨by simpa using h.1,fun i x v hx hv=>?_⟩;rw[bA]at hx;cases hz:xs[i]? with
 |none=>rw[hz]at hx;cases hx
 |some z=>rw[hz]at hx;cases hx;exact hf _ _ (h.2 i z v hz hv)
theorem Sz{d t:Nat}{z:List D}(hop:o.op=.alloc t)(hz:sL P t=some z)
 (hk:uM C.k d env s fun env s _=>k (iU o.dst env (.ptr d 0)) (sset s d (.obj t (z.map .d)))):mU P C o env s k:=by
 refine .value fun β a w hst=>?_
 obtain⟨i,u,hi,hu,hsz,h1,rfl⟩:=nE hz;obtain⟨β1,env1,s1,f,hst1,hd,hk1,hf,_⟩:=pQ hk hst;obtain⟨β2,hst2,m,hp⟩:=hst1.newObj (id:=d) hd (c:=u.cells) (t:=t) (cs:=(u.cells.toList.map cD).map .d) h1 (Hv (BK _ h1));exact⟨_,_,β2,env1,_,.ptr d 0,by simp[execOp,hop,Instr.alloc,zeroValue,typeInfo,hi,hu,newVar,newRow],hst2,hp,hk1⟩
theorem X6{d t:Nat}{x:Operand}(hop:o.op=.box t x){cs:List AV}(hc:(ev env x).cells=some cs)
 (hk:uM C.k d env s fun env s f=>k (iU o.dst env (.ptr d 0)) (sset s d (.obj t (cs.map f)))):mU P C o env s k:=by
 refine .value fun β a w hst=>?_
 obtain⟨h0,h1⟩:=vz (hst.ev x) hc;obtain⟨β1,env1,s1,f,hst1,hd,hk1,hf,_⟩:=pQ hk hst;obtain⟨β2,hst2,m,hp⟩:=hst1.newObj (id:=d) hd (c:=(a.eval x).cells) (t:=t) (cs:=cs.map f) h1 (Bo hf h0);exact⟨_,_,β2,env1,_,.ptr d 0,by simp[execOp,hop,Instr.box,newVar,newRow],hst2,hp,hk1⟩
theorem U7{d t:Nat}{x:Operand}(hop:o.op=.box t x){cs:List AV}(hc:(ev env x).cells=some cs)
 (hk:uM C.k d env s fun env s f=>k (iU o.dst env (.ptr d 0)) (sset s d (.obj t (cs.map f)))):mU P C o env s k:=by
 refine .value fun β a w hst=>?_
 obtain⟨h0,h1⟩:=vz (hst.ev x) hc;obtain⟨β1,env1,s1,f,hst1,hd,hk1,hf,_⟩:=pQ hk hst;obtain⟨β2,hst2,m,hp⟩:=hst1.newObj (id:=d) hd (c:=(a.eval x).cells) (t:=t) (cs:=cs.map f) h1 (Bo hf h0);exact⟨_,_,β2,env1,_,.ptr d 0,by simp[execOp,hop,Instr.box,newVar,newRow],hst2,hp,hk1⟩
theorem AZ{t:Nat}{ag:Bool}(h:AY P t=some ag):
 (match P.underlying t with|some (.struct _)|some (.array _ _)=>some true|some _=>some false|none=>none)=some ag:=h
theorem Nx{β:gZ}{O:Own}{w:World}:∀{cs:List AV}{us:List Value}{bs:List Nat}{j:Nat},oT β O w cs us bs->j<cs.length->∃x v,cs[j]?=some x/\us[j]?=some v/\∃b,NX β O w x v b
 |[],_,_,_,_,h=>by simp at h
 |x::xs,us,bs,j,h,hj=>by
  simp only[oT]at h;obtain⟨v,r,c1,c2,rfl,rfl,h3,h4⟩:=h;cases j with
  |zero=>exact⟨x,v,rfl,rfl,c1,h3⟩
  |succ j=>
   obtain⟨y,u,h5,h6,h7⟩:=Nx h4 (by simpa using hj);exact⟨y,u,by simpa using h5,by simpa using h6,h7⟩
theorem VN{β:gZ}{O:Own}{w:World}{x:AV}{v:Value}{b:List Nat}(hx:CQ x=false)(h:NX β O w x v b):AV.ok β O w x v:=by
 cases x with
 |dp d=>cases hx
 |_=>exact h.1
theorem Fq{t n:Nat}{ag:Bool}(hn:kZ P t=some n)(hg':AY P t=some ag){β:gZ}{a:Act}{w:World}(hst:St C β env s a w)
 {px:AV} {pval:Value} (hp:AV.ok β (C.gO β s) w px pval) {K:AV->Prop} (hk:sv (if ag then n else 1) ag px s K):
 ∃v x,(Instr.loadAt t pval).run P w=.ok v w/\AV.ok β (C.gO β s) w x v/\K x:=by
 obtain⟨i,hi,hin⟩:∃i,P.info? t=some i/\i.size=n:=by
  unfold kZ at hn;cases hq:P.info? t with
  |none=>simp[hq]at hn
  |some i=>exact⟨i,rfl,by simpa[hq]using hn⟩
 generalize hN:(if ag then n else 1)=N at hk;cases px with
 |ptr id off=>
  simp only[AV.ok]at hp;obtain⟨b,hb,hv⟩:=hp;simp only[sv]at hk;have ho:=hst.inv.obs id;cases hs:sat s id with
  |dead=>simp[hs]at hk
  |tok t' e' n'=>simp[hs]at hk
  |jj t' e' n' cs=>simp[hs]at hk
  |oU e' n' cs=>simp[hs]at hk
  |mp P k es=>simp[hs]at hk
  |lO t' e' n' cs=>simp[hs]at hk
  |obj t' cs=>
   rw[hs]at ho;simp only[hs]at hk;obtain⟨hlen,hk⟩:=hk;obtain⟨b',vs,hb',hh,h1,h2⟩:=ho;rw[hb]at hb';cases hb';obtain⟨pre,rest,hvs,h2⟩:=h2;have hl:=AV.iS h2;have hseg:=x_ N (Bn off h2);have hpre:(vs.toList.drop off).take N=(pre.drop off).take N:=by rw[hvs,cV gu,cU (by simp;omega)]
   rw[<-hpre]at hseg;have hcell:∀j v,((vs.toList.drop off).take N)[j]?=some v->w.cell? ⟨b,off+j,none⟩=some v:=by
    intro j v hj;rw[bL]at hj;split at hj
    ·rw[dj]at hj;simp only[World.cell?,hh,bR,ah,ay];simpa using hj
    ·cases hj
   have hlen2:((vs.toList.drop off).take N).length=N:=by rw[hpre];simp;omega
   have hrun:=xB (P:=P) hi (AZ hg') w b off _ hcell (by rw[hlen2,<-hN,hin]);refine⟨if ag then .agg ((vs.toList.drop off).take N).toArray else((vs.toList.drop off).take N).headD undef,_,?_,?_,hk⟩
   ·simp only[Instr.loadAt,hv,Instr.sureAddr,aR,a_,aF,hrun]
   ·cases ag with
    |true=>
     simp only[aj];have:∀u∈((vs.toList.drop off).take N).toArray.toList,one u=true:=by
      intro u hu;exact h1 u (bO (bg (by simpa using hu)))
     exact Lc (vs:=((vs.toList.drop off).take N).toArray) (by simpa using hseg) this
    |false=>
     simp only[ah,ay]at hN⊢;subst hN;have hltp:off<pre.length:=by omega
     have hlt:off<vs.toList.length:=by rw[hvs,au];omega
     have hlt2:off<cs.length:=by omega
     have e1:((vs.toList.drop off).take 1).headD undef=vs.toList[off]:=by rw[aV hlt];rfl
     rw[e1,aB,aA hlt2];refine(AV.kM.1 h2).2 off _ _ (aA hlt2) ?_;rw[<-aA hlt,hvs,aZ hltp]
 |pv cs=>
  simp only[AV.ok]at hp;obtain⟨b,off,vs,hv,hc,h2⟩:=hp;simp only[sv]at hk;obtain⟨hlen,hk⟩:=hk;have hl:=D.iS h2;have hseg:=BO N h2;have hcell:∀j v,(vs.take N)[j]?=some v->w.cell? ⟨b,off+j,none⟩=some v:=by
   intro j v hj;rw[bL]at hj;split at hj
   ·exact(hc j v hj).1
   ·cases hj
  have hlen2:(vs.take N).length=N:=by simp;omega
  have hrun:=xB (P:=P) hi (AZ hg') w b off _ hcell (by rw[hlen2,<-hN,hin]);refine⟨if ag then .agg (vs.take N).toArray else(vs.take N).headD undef,_,?_,?_,hk⟩
  ·simp only[Instr.loadAt,hv,Instr.sureAddr,aR,a_,aF,hrun]
  ·cases ag with
   |true=>
    simp only[aj,AV.ok,D.ok];exact⟨(vs.take N).toArray,rfl,by simpa using hseg⟩
   |false=>
    simp only[ah,ay]at hN⊢;subst hN;cases cs with
    |nil=>simp at hlen
    |cons c cs=>
     simp only[D.iK]at h2;obtain⟨v,r,rfl,_,h3,_⟩:=h2;simpa[AV.ok]using h3
 |iN=>simp[sv]at hk
 |d x=>simp[sv]at hk
 |own e id xs=>simp[sv]at hk
 |tS e id off len=>simp[sv]at hk
 |agg cs=>simp[sv]at hk
 |oz cs=>simp[sv]at hk
 |fn f a b=>simp[sv]at hk
 |mL e id n=>simp[sv]at hk
 |BZ e xs=>simp[sv]at hk
 |nm u e xs=>simp[sv]at hk
 |dp d=>simp[sv]at hk
 |mp id=>simp[sv]at hk
 |mJ id kk off=>
  simp only[AV.ok]at hp;obtain⟨u,m,b,off',hb,_,hv,hpt⟩:=hp;simp only[sv]at hk;have ho:=hst.inv.obs id;cases hs:sat s id with
  |dead=>simp[hs]at hk
  |tok t' e' n'=>simp[hs]at hk
  |jj t' e' n' cs=>simp[hs]at hk
  |mp P k es=>simp[hs]at hk
  |obj t' cs=>simp[hs]at hk
  |oU e' n' cs=>
   rw[hs]at ho;simp only[hs]at hk;obtain⟨hkm,hlen,rfl,hn1,hdp,hk⟩:=hk;subst hn1;obtain⟨u',bs,hb',_,hcl,hg⟩:=ho;rw[hb']at hb;obtain⟨rfl,rfl⟩:=hb;obtain⟨cap,hu,had⟩:=hpt hkm;subst had;rcases hg with⟨_,hg,_⟩|⟨b',cap',vs,t',hg,hh,_,_,_,h1,_,_,h2⟩
   ·subst hg;simp only[dM]at hcl;omega
   ·rw[hu]at hg;simp only[bw,aM,dn]at hg;obtain⟨⟨rfl,_⟩,_⟩:=hg;obtain⟨x0,v0,hx0,hv0,bx,hnx⟩:=Nx h2 (by omega:off'<cs.length);have hdp':CQ x0=false:=by rw[aB,hx0]at hdp;exact hdp
    have hxv:=VN hdp' hnx;have hc0:w.cell? ⟨b,off',none⟩=some v0:=by
     simp only[World.cell?,hh,bR,ah,ay];simpa using hv0
    have hrun:=xB (P:=P) hi (AZ hg') w b off' [v0] (fun j v hj=>by
     cases j with
     |zero=>simp at hj;subst hj;exact hc0
     |succ j=>simp at hj) (by simpa using hN.symm)
    refine⟨v0,_,?_,?_,hk⟩
    ·simp only[Instr.loadAt,hv,Instr.sureAddr,aR,a_,aF,hrun];rfl
    ·rw[aB,hx0];exact hxv
  |lO t' e' n' cs=>
   rw[hs]at ho;simp only[hs]at hk;obtain⟨hkm,hlen,hk⟩:=hk;obtain⟨u',hb',hcl,hg⟩:=ho;rw[hb']at hb;obtain⟨rfl,rfl⟩:=hb;obtain⟨cap,hu,had⟩:=hpt hkm;subst had;rcases hg with⟨hg,_⟩|⟨b',cap',vs,hg,hh,_,_,_,h1,pre,rest,hvs,h2⟩
   ·rw[hg]at hu;cases hu
   ·rw[hu]at hg;cases hg;have hl:=D.iS h2;have hseg:=BO N (zL off' h2);have hpre:(vs.toList.drop off').take N=(pre.drop off').take N:=by rw[hvs,cV gu,cU (by simp;omega)]
    rw[<-hpre]at hseg;have hcell:∀j v,((vs.toList.drop off').take N)[j]?=some v->w.cell? ⟨b,off'+j,none⟩=some v:=by
     intro j v hj;rw[bL]at hj;split at hj
     ·rw[dj]at hj;simp only[World.cell?,hh,bR,ah,ay];simpa using hj
     ·cases hj
    have hlen2:((vs.toList.drop off').take N).length=N:=by rw[hpre];simp;omega
    have hrun:=xB (P:=P) hi (AZ hg') w b off' _ hcell (by rw[hlen2,<-hN,hin]);refine⟨if ag then .agg ((vs.toList.drop off').take N).toArray else((vs.toList.drop off').take N).headD undef,_,?_,?_,hk⟩
    ·simp only[Instr.loadAt,hv,Instr.sureAddr,aR,a_,aF,hrun]
    ·cases ag with
     |true=>
      simp only[aj,AV.ok,D.ok];exact⟨((vs.toList.drop off').take N).toArray,rfl,by simpa using hseg⟩
     |false=>
      simp only[ah,ay]at hN⊢;subst hN;have hltp:off'<pre.length:=by omega
      have hlt:off'<vs.toList.length:=by rw[hvs,au];omega
      have hlt2:off'<cs.length:=by omega
      have e1:((vs.toList.drop off').take 1).headD undef=vs.toList[off']:=by rw[aV hlt];rfl
      simp only[AV.ok];rw[e1,aB,aA hlt2];refine((D.kM.1 h2).2 off' _ _ (aA hlt2) ?_).2;rw[<-aA hlt,hvs,aZ hltp]
theorem Vc{t n:Nat}{ag:Bool}{p:Operand}(hop:o.op=.load t p)(hn:kZ P t=some n)(hg:AY P t=some ag)
 (hk:sv (if ag then n else 1) ag (ev env p) s fun x=>k (iU o.dst env x) s):mU P C o env s k:=by
 refine .value fun β a w hst=>?_
 obtain⟨v,x,h1,h2,h3⟩:=Fq (P:=P) hn hg hst (hst.ev p) hk;exact⟨v,w,β,env,s,x,by simp only[execOp,hop,aR,h1,aF,a_],hst,h2,h3⟩
end
theorem LX(β:gZ)(id:Nat):gG β id (β id)=β:=by
 funext i;unfold gG;split
 ·rename_i h;rw[h]
 ·rfl
theorem St.Vt{C:Ctx}{β:gZ}{env:List AV}{s:gQ}{a:Act}{w w':World}(h:St C β env s a w){id b:Nat}{ob:Ob}{p:Place}
 (hbl:gy β s id b) (hsize:w'.heap.size=w.heap.size) (hio:EL w'=EL w) (hoth:∀b',b'≠b->w'.heap[b']?=w.heap[b']?)
 (hkeep:∀o v,w.cell? ⟨b,o,none⟩=some v->¬own β s b o->w'.cell? ⟨b,o,none⟩=some v)
 (hown:∀b' o,own (gG β id p) [(id,ob)] b' o->own β s b' o)
 (hblk:∀b',gy (gG β id p) [(id,ob)] id b'->b'=b)
 (hpl:mG (β id) p)
 (hob:∀β' F,(∀x v,AV.ok β (C.gO β s) w x v->AV.ok β' F w' x v)->(∀xs vs,AV.iK β (C.gO β s) w xs vs->AV.iK β' F w' xs vs)->
  β' id=p->vO β' F w' id ob):
 St C (gG β id p) env (sset s id ob) a w'/\mu β s w (gG β id p) (sset s id ob) w':=by
 have m:mu β s w (gG β id p) (sset s id ob) w':=by
  refine⟨gu,hio,fun b' o v hc hn=>?_,fun b' _ hn=>?_,fun b' o ho=>?_,fun i b' hb=>?_,fun i=>?_⟩
  ·by_cases hbb:b'=b
   ·subst hbb;exact hkeep o v hc hn
   ·rw[<-hc];exact cF (hoth b' hbb)
  ·exact hoth b' fun e=>hn id (e▸hbl)
  ·rcases sX ho with ho|ho
   ·exact .inl ho
   ·exact .inl (hown b' o ho)
  ·rcases jk hb with⟨_,hb⟩|⟨_,hb⟩
   ·exact .inl ⟨i,hb⟩
   ·exact .inl ⟨id,(hblk b' hb)▸hbl⟩
  ·by_cases hi:i=id
   ·subst hi;simpa[gG]using hpl
   ·simp only[gG,hi,ay];exact .refl _
 refine⟨h.move m (fun i=>?_) (fun i j b' hi hj=>?_),m⟩
 ·rw[iE];by_cases hi:i=id
  ·subst hi;simp only[aj];exact hob _ _ (fun x v hx=>m.ok hx) (fun xs vs hx=>m.iK hx) (by simp[gG])
  ·simp only[hi,ay];refine(h.inv.obs i).sJ m (by simp[gG,hi]) (fun b' hb=>hoth b' fun e=>hi ?_) rfl;subst e;exact h.inv.inj i id b' hb hbl
 ·rcases jk hi with⟨hi1,hi2⟩|⟨rfl,hi2⟩<;>rcases jk hj with⟨hj1,hj2⟩|⟨rfl,hj2⟩
  ·exact h.inv.inj i j b' hi2 hj2
  ·exact absurd (h.inv.inj i _ b' hi2 ((hblk b' hj2)▸hbl)) hi1
  ·exact absurd (h.inv.inj j _ b' hj2 ((hblk b' hi2)▸hbl)) hj1
  ·rfl
theorem St.Qe{C:Ctx}{β:gZ}{env:List AV}{s:gQ}{a:Act}{w:World}(h:St C β env s a w){id b t:Nat}{cs cs':List AV}{vs vs':Array Value}
 (hs:sat s id=.obj t cs) (hb:β id=.CU b) (hh:w.heap[b]?=some (.cells vs t (0,0))) (h1:∀v∈vs'.toList,one v=true)
 (h2:I2 β (C.gO β s) w cs' vs'.toList):St C β env (sset s id (.obj t cs')) a (w.setRow b vs'):=by
 have hbl:gy β s id b:=by unfold gy;rw[hs];exact hb
 have:=(h.Vt (id:=id) (b:=b) (ob:=.obj t cs') (p:=.CU b) (w':=w.setRow b vs') hbl (by simp) (by simp[EL])
  (fun b' hb'=>dZ w b b' vs' (fun e=>hb' e))
  (fun o v _ hn=>absurd ⟨id,by rw[hs];exact hb⟩ hn)
  (fun b' o ho=>by
   obtain⟨i,ho⟩:=ho;by_cases hi:i=id
   ·subst hi;simp[sat,gG]at ho;subst ho;exact⟨i,by rw[hs];exact hb⟩
   ·simp[sat,hi]at ho)
  (fun b' hb'=>by simp[gy,sat,gG]at hb';exact hb'.symm)
  (by rw[hb];rfl)
  (fun β' F _ hxs hp=>⟨b,vs',hp,dS w b vs vs' t (0,0) hh,h1,h2.imp fun _ h=>hxs _ _ h⟩)).1
 rw[<-hb,LX]at this;exact this
section
variable{P:Program}{C:Ctx}{o:Oper}{env:List AV}{s:gQ}{k:List AV->gQ->Prop}
theorem mU.skip{P:Program}{C:Ctx}{o:Oper}{env:List AV}{s:gQ}{k:List AV->gQ->Prop}
 (h:∀β a w,St C β env s a w->∃w' β' env' s',(execOp a.eval o).run P w=.ok .skip w'/\St C β' env' s' a w'/\
  k (iU o.dst env' .iN) s'):mU P C o env s k:=by
 intro hnd Q β a w hst;obtain⟨w',β',env',s',hr,h1,h3⟩:=h β a w hst;refine⟨fun _ _=>trivial,?_⟩;rw[Oper.semAt_eq _ _ _ hnd,hr];exact⟨β',_,s',h1.put (x:=.iN) (v:=undef) (by simp[AV.ok]) o.dst,h3⟩
theorem xA{v:Value}(h:one v=true):v.oneCell'=true:=by cases v<;>simp_all[one,Value.oneCell']
theorem GG{x:Operand}(hop:o.op=.nilCheck x){y:AV}(hx:ev env x=y)(hy:(∃id off,y=.ptr id off)\/(∃cs,y=.pv cs)\/(∃f a b,y=.fn f a b)\/∃id m off,y=.mJ id m off)
 (hk:k (iU o.dst env y) s):mU P C o env s k:=by
 refine .value fun β a w hst=>?_
 have h:=hst.ev x;rw[hx]at h;refine⟨a.eval x,w,β,env,s,y,?_,hst,h,hk⟩;rcases hy with⟨id,off,rfl⟩|⟨cs,rfl⟩|⟨f,c,d,rfl⟩|⟨id,m,off,rfl⟩
 ·simp only[AV.ok]at h;obtain⟨b,_,h⟩:=h;simp[execOp,hop,h]
 ·simp only[AV.ok]at h;obtain⟨b,off,vs,h,_⟩:=h;simp[execOp,hop,h]
 ·simp only[AV.ok]at h;obtain⟨fs,cs,h,_⟩:=h;simp[execOp,hop,h]
 ·simp only[AV.ok]at h;obtain⟨u,m',b,off',_,_,h,_⟩:=h;simp[execOp,hop,h]
theorem TZ{op:BinOp}{t t':Nat}{x y:Operand}(hop:o.op=.binOp op t x y t')
 (hk:Q9 op (ev env x) (ev env y) fun r=>k (iU o.dst env r) s):mU P C o env s k:=by
 refine .value fun β a w hst=>?_
 unfold Q9 at hk;split at hk
 ·rename_i j n j' m hx hy;have h1:=hst.ev x;have h2:=hst.ev y;rw[hx]at h1;rw[hy]at h2;have h1:=ow h1;have h2:=ow h2;obtain⟨hkk,hk⟩:=hk;have hguard:(eqGuard op t x y (.int j n) (.int j' m)).run P w=.ok () w:=by
   unfold eqGuard;split<;>simp
  have main:∀r:Value,one r=true->(binOp op t (.int j n) (.int j' m)).run P w=.ok r w->k (iU o.dst env (.d (.lit r))) s->
   ∃v w' β' env' s' x,(execOp a.eval o).run P w=.ok (.value v) w'/\St C β' env' s' a w'/\AV.ok β' (C.gO β' s') w' x v/\k (iU o.dst env' x) s':=by
   intro r hr hrun hk;exact⟨r,w,β,env,s,_,by simp[execOp,hop,h1,h2,hguard,hrun],hst,uF hr,hk⟩
  cases op with
  |add=>cases hkk;exact main _ rfl (by simp[binOp];rfl) hk
  |sub=>cases hkk;exact main _ rfl (by simp[binOp];rfl) hk
  |mul=>cases hkk;exact main _ rfl (by simp[binOp];rfl) hk
  |quo=>cases hkk;exact main _ rfl (by simp[binOp,Op.intDiv,hk.1]) hk.2
  |rem=>cases hkk;exact main _ rfl (by simp[binOp,Op.intDiv,hk.1]) hk.2
  |and=>cases hkk;exact main _ rfl (by simp[binOp,Op.intBits,Dc]) hk
  |or=>cases hkk;exact main _ rfl (by simp[binOp,Op.intBits,Yy]) hk
  |xor=>cases hkk;exact main _ rfl (by simp[binOp,Op.intBits,Ng]) hk
  |shl=>exact main _ rfl (by simp[binOp,Op.shift,SG,Int.not_lt.2 hk.1]) hk.2
  |shr=>exact main _ rfl (by simp[binOp,Op.shift,Iw,Int.not_lt.2 hk.1]) hk.2
  |andNot=>cases hkk;exact main _ rfl (by simp[binOp,Op.intBits,KC]) hk
  |eql=>cases hkk;exact main _ rfl (by simp[binOp];rfl) hk
  |neq=>cases hkk;exact main _ rfl (by simp[binOp];rfl) hk
  |lss=>cases hkk;exact main _ rfl (by simp[binOp];rfl) hk
  |leq=>cases hkk;exact main _ rfl (by simp[binOp];rfl) hk
  |gtr=>cases hkk;exact main _ rfl (by simp[binOp];rfl) hk
  |geq=>cases hkk;exact main _ rfl (by simp[binOp];rfl) hk
 ·rename_i b c hx hy;have h1:=hst.ev x;have h2:=hst.ev y;rw[hx]at h1;rw[hy]at h2;have h1:=ow h1;have h2:=ow h2;have hguard:(eqGuard op t x y (.string b) (.string c)).run P w=.ok () w:=by
   unfold eqGuard;split<;>simp
  have main:∀r:Value,one r=true->(binOp op t (.string b) (.string c)).run P w=.ok r w->k (iU o.dst env (.d (.lit r))) s->
   ∃v w' β' env' s' x,(execOp a.eval o).run P w=.ok (.value v) w'/\St C β' env' s' a w'/\AV.ok β' (C.gO β' s') w' x v/\k (iU o.dst env' x) s':=by
   intro r hr hrun hk;exact⟨r,w,β,env,s,_,by simp[execOp,hop,h1,h2,hguard,hrun],hst,uF hr,hk⟩
  cases op with
  |add=>
   have hle:¬((b.size+c.size:Nat):Int)>IntKind.i64.max:=by
    have h0:=hk.1;have:IntKind.i64.max=9223372036854775807:=by decide
    rw[this];omega
   exact main _ rfl (by simp only[binOp,Op.stringOp];rw[aJ hle];rfl) hk.2
  |eql=>exact main _ rfl (by simp only[binOp,Op.stringOp];rfl) hk
  |neq=>exact main _ rfl (by simp only[binOp,Op.stringOp];rfl) hk
  |_=>exact hk.elim
 ·exact hk.elim
theorem run_equal_bool{t:Nat}(hu:P.underlying t=some .bool)(w:World)(p q:Bool):(Op.equal t (.bool p) (.bool q)).run P w=.ok (p==q) w:=by
 have hd:Op.maxDepth=9999+1:=rfl;unfold Op.equal;rw[hd];unfold Op.equalIn;simp only[aR,aY hu,aF];rfl
theorem PZ{op:BinOp}{t t':Nat}{x y:Operand}(hop:o.op=.binOp op t x y t')(hu:P.underlying t=some .bool){neg:Bool}
 (hn:(op=.eql/\neg=false)\/(op=.neq/\neg=true)) {p q:Bool} (hx:ev env x=.d (.lit (.bool p))) (hy:ev env y=.d (.lit (.bool q)))
 (hk:k (iU o.dst env (.d (bD (if neg then p != q else p==q)))) s):mU P C o env s k:=by
 refine .value fun β a w hst=>?_
 have h1:=hst.ev x;have h2:=hst.ev y;rw[hx]at h1;rw[hy]at h2;have h1:=ow h1;have h2:=ow h2;refine⟨.bool (if neg then p != q else p==q),w,β,env,s,_,?_,hst,uF rfl,hk⟩;have hguard:(eqGuard op t x y (.bool p) (.bool q)).run P w=.ok () w:=by
  unfold eqGuard;split<;>simp
 rcases hn with⟨rfl,rfl⟩|⟨rfl,rfl⟩
 ·simp[execOp,hop,h1,h2,hguard,binOp,run_equal_bool hu]
 ·simp[execOp,hop,h1,h2,hguard,binOp,run_equal_bool hu,bne]
theorem Ir{op:BinOp}{t t' e:Nat}{x y:Operand}(hop:o.op=.binOp op t x y t')(hu:P.underlying t=some (.slice e))(hy:wK y=true){neg:Bool}
 (hn:(op=.eql/\neg=false)\/(op=.neq/\neg=true))
 (hx:∀β a w,St C β env s a w->∃(ad:Option Addr)(n cap:Nat)(b:Bool),a.eval x=.slice ad n cap/\ad.isNone=b/\k (iU o.dst env (.d (bD (if neg then !b else b)))) s):mU P C o env s k:=by
 refine .value fun β a w hst=>?_
 obtain⟨ad,n,cap,b,h1,h3,hk⟩:=hx β a w hst;have h2:a.eval y=.slice none 0 0:=by
  unfold wK at hy;split at hy
  ·rfl
  ·cases hy
 refine⟨.bool (if neg then !b else b),w,β,env,s,_,?_,hst,uF rfl,hk⟩;have hguard:(eqGuard op t x y (.slice ad n cap) (.slice none 0 0)).run P w=.ok () w:=by
  unfold eqGuard;split<;>simp
 have heq:(Op.equal t (.slice ad n cap) (.slice none 0 0)).run P w=.ok b w:=by
  subst h3;have hd:Op.maxDepth=9999+1:=rfl;unfold Op.equal;rw[hd];unfold Op.equalIn;simp only[aR,aY hu,aF];cases ad<;>rfl
 rcases hn with⟨rfl,rfl⟩|⟨rfl,rfl⟩
 ·simp[execOp,hop,h1,h2,hguard,binOp,heq]
 ·simp[execOp,hop,h1,h2,hguard,binOp,heq]
theorem Lr{op:BinOp}{t t' e:Nat}{x y:Operand}(hop:o.op=.binOp op t x y t')(hu:P.underlying t=some (.slice e))(hy:wK y=true){neg:Bool}
 (hn:(op=.eql/\neg=false)\/(op=.neq/\neg=true)) {b:Bool} (hx:y_ (ev env x)=some b)
 (hk:k (iU o.dst env (.d (bD (if neg then !b else b)))) s):mU P C o env s k:=Ir hop hu hy hn fun _ _ _ hst=>
 let⟨ad,n,cap,h1,h3⟩:=UZ (hst.ev x) hx;⟨ad,n,cap,b,h1,h3,hk⟩
theorem Iu{op:BinOp}{t t' e:Nat}{x y:Operand}(hop:o.op=.binOp op t x y t')(hu:P.underlying t=some (.slice e))(hy:wK y=true){neg:Bool}
 (hn:(op=.eql/\neg=false)\/(op=.neq/\neg=true)) {e':Nat} {xs:List D} (hx:rM (ev env x)=some (e',xs))
 (hk1:xs=[]->k (iU o.dst env (.d (bD (if neg then !true else true)))) s) (hk2:k (iU o.dst env (.d (bD (if neg then !false else false)))) s):mU P C o env s k:=
 Ir hop hu hy hn fun β a w hst=>by
  obtain⟨ad,cap,h1,_,_,h4⟩:=zH (hst.ev x) hx;cases ad with
  |some p=>exact⟨_,_,_,false,h1,rfl,hk2⟩
  |none=>
   refine⟨_,_,_,true,h1,rfl,hk1 ?_⟩;rcases h4 with h4|⟨b,o,h4,_⟩
   ·exact h4
   ·cases h4
theorem Yf{t:Nat}{x:Operand}(hop:o.op=.unOp .not t x){b:Bool}(hx:ev env x=.d (.lit (.bool b)))
 (hk:k (iU o.dst env (.d (bD (!b)))) s):mU P C o env s k:=by
 refine .pure (x:=.d (bD (!b))) (fun β a w hst=>?_) hk;have h:=hst.ev x;rw[hx]at h;have h:=ow h;exact⟨.bool (!b),by simp[execOp,hop,h,Op.unary],uF rfl⟩
theorem Ye{t:Nat}{x:Operand}(hop:o.op=.unOp .neg t x){j:IntKind}{n:Int}(hx:ev env x=.d (.lit (.int j n)))
 (hk:k (iU o.dst env (.d (.lit (.int j (j.wrap (0-n)))))) s):mU P C o env s k:=by
 refine .pure (x:=.d (.lit (.int j (j.wrap (0-n))))) (fun β a w hst=>?_) hk;have h:=hst.ev x;rw[hx]at h;have h:=ow h;exact⟨.int j (j.wrap (0-n)),by simp[execOp,hop,h,Op.unary,Op.intArith],uF rfl⟩
theorem Va{t u:Nat}{x:Operand}(hop:o.op=.convert t u x){j':IntKind}(ht:∃j,P.underlying t=some (.int j))(hu:P.underlying u=some (.int j'))
 {j:IntKind} {n:Int} (hx:ev env x=.d (.lit (.int j n)))
 (hk:k (iU o.dst env (.d (.lit (.int j' (j'.wrap n))))) s):mU P C o env s k:=by
 refine .pure (x:=.d (.lit (.int j' (j'.wrap n)))) (fun β a w hst=>?_) hk;have h:=hst.ev x;rw[hx]at h;have h:=ow h;obtain⟨j0,ht⟩:=ht;exact⟨.int j' (j'.wrap n),by simp[execOp,hop,h,convert,aY ht,aY hu,Conv.intToInt],uF rfl⟩
theorem Gd{β:gZ}{a:Act}{w:World}(hst:St C β env s a w):∀(xs:List Operand),AV.iK β (C.gO β s) w (xs.map (ev env)) (xs.map a.eval)
 |[]=>by simp[AV.iK]
 |x::xs=>by simp only[aT,AV.iK];exact⟨_,_,rfl,hst.ev x,Gd hst xs⟩
theorem Vf{f:Nat}{first cap:Array Operand}(hop:o.op=.makeFunc (.func f) first cap)
 (hk:k (iU o.dst env (.fn f (first.toList.map (ev env)) (cap.toList.map (ev env)))) s):mU P C o env s k:=by
 refine .pure (x:=.fn f (first.toList.map (ev env)) (cap.toList.map (ev env))) (fun β a w hst=>?_) hk;refine⟨.func (.func f) (first.map a.eval) (cap.map a.eval),by simp[execOp,hop,Instr.makeFunc],?_⟩;simp only[AV.ok];exact⟨_,_,rfl,by simpa using Gd hst first.toList,by simpa using Gd hst cap.toList⟩
theorem X8{x:Operand}{i:Nat}(hop:o.op=.extract x i){cs:List AV}(hx:ev env x=.oz cs)(hi:i<cs.length)
 (hk:k (iU o.dst env (cs.getD i .iN)) s):mU P C o env s k:=by
 refine .value fun β a w hst=>?_
 have h:=hst.ev x;rw[hx]at h;simp only[AV.ok]at h;obtain⟨vs,h1,h2⟩:=h;have hl:=AV.iS h2;have hlt:i<vs.size:=by simpa[<-hl]using hi
 refine⟨vs[i],w,β,env,s,_,by simp[execOp,hop,h1,Instr.extract,ck hlt],hst,?_,hk⟩;rw[aB,aA hi];exact(AV.kM.1 h2).2 i _ _ (aA hi) (by simp[ck hlt])
theorem Yb{c:Call}(hop:o.op=.call c)(hc:c.callee=.builtin .max){x y:Operand}(ha:c.args=#[x,y]){j:IntKind}{n m:Int}
 (hx:ev env x=.d (.lit (.int j n))) (hy:ev env y=.d (.lit (.int j m)))
 (hk:k (iU o.dst env (.d (.lit (.int j (if m>n then m else n))))) s):mU P C o env s k:=by
 refine .pure (x:=.d (.lit (.int j (if m>n then m else n)))) (fun β a w hst=>?_) hk;have h1:=hst.ev x;have h2:=hst.ev y;rw[hx]at h1;rw[hy]at h2;have h1:=ow h1;have h2:=ow h2;exact⟨.int j (if m>n then m else n),by simp[execOp,hop,resolve,hc,ha,h1,h2,invoke,builtin,Builtin.max_,Builtin.max2],uF rfl⟩
theorem Yc{c:Call}(hop:o.op=.call c)(hc:c.callee=.builtin .min){x y:Operand}(ha:c.args=#[x,y]){j:IntKind}{n m:Int}
 (hx:ev env x=.d (.lit (.int j n))) (hy:ev env y=.d (.lit (.int j m)))
 (hk:k (iU o.dst env (.d (.lit (.int j (if m<n then m else n))))) s):mU P C o env s k:=by
 refine .pure (x:=.d (.lit (.int j (if m<n then m else n)))) (fun β a w hst=>?_) hk;have h1:=hst.ev x;have h2:=hst.ev y;rw[hx]at h1;rw[hy]at h2;have h1:=ow h1;have h2:=ow h2;exact⟨.int j (if m<n then m else n),by simp[execOp,hop,resolve,hc,ha,h1,h2,invoke,builtin,Builtin.min_,Builtin.min2],uF rfl⟩
theorem P2{t f:Nat}{p:Operand}(hop:o.op=.fieldAddr t p f){fs:Array Field}(hu:P.underlying t=some (.struct fs)){fd:Field}(hf:fs[f]?=some fd)
 {n:Nat} (hn:kZ P fd.type=some n) (h0:n≠0) {r:AV}
 (hr:(∃id off,ev env p=.ptr id off/\r=.ptr id (off+fd.offset))\/(∃cs,ev env p=.pv cs/\r=.pv (cs.drop fd.offset))\/(∃id m off,ev env p=.mJ id m off/\r=.mJ id m (off+fd.offset)))
 (hk:k (iU o.dst env r) s):mU P C o env s k:=by
 refine .value fun β a w hst=>?_
 obtain⟨i,hi,hin⟩:∃i,P.info? fd.type=some i/\i.size=n:=by
  unfold kZ at hn;cases hq:P.info? fd.type with
  |none=>simp[hq]at hn
  |some i=>exact⟨i,rfl,by simpa[hq]using hn⟩
 have hp:=hst.ev p;have hplace:∀b off,(fieldPlace ⟨b,off,none⟩ fd).run P w=.ok ⟨b,off+fd.offset,none⟩ w:=by
  intro b off;simp[fieldPlace,Go.sizeOf,typeInfo,hi,hin,h0,dA]
 rcases hr with⟨id,off,he,rfl⟩|⟨cs,he,rfl⟩|⟨id,m,off,he,rfl⟩
 ·rw[he]at hp;simp only[AV.ok]at hp;obtain⟨b,hb,hv⟩:=hp;refine⟨.pointer (some ⟨b,off+fd.offset,none⟩),w,β,env,s,_,?_,hst,?_,hk⟩
  ·simp[execOp,hop,Instr.fieldAt,aY hu,hf,hv,Instr.sureAddr,hplace]
  ·simp only[AV.ok];exact⟨b,hb,rfl⟩
 ·rw[he]at hp;simp only[AV.ok]at hp;obtain⟨b,off,vs,hv,hc,h2⟩:=hp;refine⟨.pointer (some ⟨b,off+fd.offset,none⟩),w,β,env,s,_,?_,hst,?_,hk⟩
  ·simp[execOp,hop,Instr.fieldAt,aY hu,hf,hv,Instr.sureAddr,hplace]
  ·simp only[AV.ok];refine⟨b,off+fd.offset,vs.drop fd.offset,rfl,fun j v hj=>?_,zL _ h2⟩;rw[dj]at hj;have:=hc _ v hj;rwa [<-cM]at this
 ·rw[he]at hp;simp only[AV.ok]at hp;obtain⟨u,m',b,off',hb,hle,hv,hpt⟩:=hp;refine⟨.pointer (some ⟨b,off'+fd.offset,none⟩),w,β,env,s,_,?_,hst,?_,hk⟩
  ·simp[execOp,hop,Instr.fieldAt,aY hu,hf,hv,Instr.sureAddr,hplace]
  ·simp only[AV.ok];refine⟨u,m',b,off'+fd.offset,hb,hle,rfl,fun e=>?_⟩;obtain⟨cap,h1,h2⟩:=hpt e;exact⟨cap,h1,by rw[h2]⟩
end
theorem LP{β:gZ}{O:Own}{w:World}{x:AV}{v:Value}(h:AV.ok β O w x v){cs:List AV}(hc:x.ni=some cs):
 ∃vs:Array Value,v=.agg vs/\AV.iK β O w cs vs.toList/\∀u∈vs.toList,one u=true:=by
 cases x with
 |d x=>
  cases x with
  |agg xs=>
   have h2:=vz h (cs:=cs) hc;simp only[AV.ok,D.ok]at h;obtain⟨vs,rfl,h1⟩:=h;exact⟨vs,rfl,h2⟩
  |any=>simp[AV.ni]at hc
  |lit u=>simp[AV.ni]at hc
  |sl e nl ys=>simp[AV.ni]at hc
 |agg xs=>
  have h2:=vz h (cs:=cs) hc;simp only[AV.ok]at h;obtain⟨vs,rfl,_,h1⟩:=h;exact⟨vs,rfl,h2⟩
 |iN=>simp[AV.ni]at hc
 |own e id xs=>simp[AV.ni]at hc
 |ptr id off=>simp[AV.ni]at hc
 |tS e id off len=>simp[AV.ni]at hc
 |pv cs=>simp[AV.ni]at hc
 |oz cs=>simp[AV.ni]at hc
 |fn f a b=>simp[AV.ni]at hc
 |mL e id n=>simp[AV.ni]at hc
 |mJ id k off=>simp[AV.ni]at hc
 |BZ e xs=>simp[AV.ni]at hc
 |nm u e xs=>simp[AV.ni]at hc
 |dp d=>simp[AV.ni]at hc
 |mp id=>simp[AV.ni]at hc
section
variable{P:Program}{C:Ctx}{o:Oper}{env:List AV}{s:gQ}{k:List AV->gQ->Prop}
theorem kT{t n:Nat}(hn:kZ P t=some n):∃i,P.info? t=some i/\i.size=n:=by
 unfold kZ at hn;cases hq:P.info? t with
 |none=>simp[hq]at hn
 |some i=>exact⟨i,rfl,by simpa[hq]using hn⟩
theorem tN{t n:Nat}(hn:xD P t=some n):∃i,P.info? t=some i/\i.bytes=n:=by
 unfold xD at hn;cases hq:P.info? t with
 |none=>simp[hq]at hn
 |some i=>exact⟨i,rfl,by simpa[hq]using hn⟩
theorem mW{t e:Nat}(hn:E5 P t=some e):P.underlying t=some (.slice e):=by
 unfold E5 at hn;split at hn
 ·cases hn;assumption
 ·cases hn
theorem FB{t:Nat}{ag:Bool}(h:AY P t=some ag)(w:World):(isAgg t).run P w=.ok ag w:=by
 unfold AY at h;cases hq:P.underlying t with
 |none=>simp[hq]at h
 |some d=>
  simp only[isAgg,aR,aY hq,aF];rw[hq]at h;cases d<;>simp_all
theorem X9{t f:Nat}{x:Operand}(hop:o.op=.field t x f){fs:Array Field}(hu:P.underlying t=some (.struct fs)){fd:Field}(hf:fs[f]?=some fd)
 {n:Nat} (hn:kZ P fd.type=some n) {ag:Bool} (hg:AY P fd.type=some ag) {cs:List AV} (hc:(ev env x).ni=some cs)
 (hl:fd.offset+(if ag then n else 1)<=cs.length)
 (hk:k (iU o.dst env (if ag then AV.mk ((cs.drop fd.offset).take n)else cs.getD fd.offset .iN)) s):mU P C o env s k:=by
 refine .value fun β a w hst=>?_
 obtain⟨i,hi,hin⟩:=kT hn;obtain⟨vs,hv,h2,h1⟩:=LP (hst.ev x) hc;have hlen:=AV.iS h2;cases ag with
 |true=>
  simp only[aj]at hl;refine⟨.agg (vs.extract fd.offset (fd.offset+n)),w,β,env,s,_,?_,hst,?_,hk⟩
  ·simp[execOp,hop,Instr.field,aY hu,hf,part,FB hg,hv,asAgg,Go.sizeOf,typeInfo,hi,hin]
  ·simp only[aj];have e1:(vs.extract fd.offset (fd.offset+n)).toList=(vs.toList.drop fd.offset).take n:=by simp[Array.toList_extract]
   refine Lc ?_ fun u hu=>?_
   ·rw[e1];exact x_ n (Bn _ h2)
   ·rw[e1]at hu;exact h1 u (bO (bg hu))
 |false=>
  simp only[ah,ay]at hl⊢;have hlt:fd.offset<vs.size:=by simp at hlen;omega
  refine⟨vs[fd.offset],w,β,env,s,_,?_,hst,?_,hk⟩
  ·simp[execOp,hop,Instr.field,aY hu,hf,part,FB hg,hv,asAgg,ck hlt]
  ·simp only[ah,ay];have hlt2:fd.offset<cs.length:=by omega
   rw[aB,aA hlt2];exact(AV.kM.1 h2).2 _ _ _ (aA hlt2) (by simp[ck hlt])
theorem zE{t e:Nat}{i:TypeInfo}(hu:P.underlying t=some (.slice e))(hi:P.info? e=some i)(w:World)(b off len cap:Nat)(j:IntKind)(n:Int)
 (h0:0<=n) (hn:n<len):(Instr.indexAt t (.slice (some ⟨b,off,none⟩) len cap) (.int j n)).run P w=.ok (.pointer (some ⟨b,off+n.toNat*i.size,none⟩)) w:=by
 simp[Instr.indexAt,asIntOf,aY hu,h0,hn,Go.sizeOf,typeInfo,hi,dA]
theorem X_{t e n:Nat}{x ix:Operand}(hop:o.op=.indexAddr t x ix)(hu:P.underlying t=some (.slice e))(hn:kZ P e=some n)
 (hk:RZ n (ev env x) (ev env ix) fun r=>k (iU o.dst env r) s):mU P C o env s k:=by
 refine .value fun β a w hst=>?_
 obtain⟨i,hi,hin⟩:=kT hn;unfold RZ at hk;split at hk
 ·exact hk.elim
 ·rename_i m hm;obtain⟨j,hv⟩:=uu (hst.ev ix) hm;have hx:=hst.ev x;split at hk
  ·rename_i e' id off len hxe;obtain⟨rfl,h0,h1,hk⟩:=hk;rw[hxe]at hx;simp only[AV.ok]at hx;obtain⟨b,cap,hb,_,hxv⟩:=hx;refine⟨.pointer (some ⟨b,off+m.toNat*i.size,none⟩),w,β,env,s,_,?_,hst,?_,hk⟩
   ·simp only[execOp,hop,hxv,hv,aR,zE hu hi w b off len cap j m h0 h1,aF,a_]
   ·simp only[AV.ok,hin];exact⟨b,hb,rfl⟩
  ·rename_i e' id len hxe;obtain⟨rfl,h0,h1,hk⟩:=hk;rw[hxe]at hx;simp only[AV.ok]at hx;obtain⟨u,q,hb,hle,heq,⟨_,hxv,hl0⟩|⟨g,cap,hxv,_,_⟩⟩:=hx
   ·subst hl0;omega
   ·refine⟨.pointer (some ⟨g,0+m.toNat*i.size,none⟩),w,β,env,s,_,?_,hst,?_,hk⟩
    ·simp only[execOp,hop,hxv,hv,aR,zE hu hi w g 0 len cap j m h0 h1,aF,a_]
    ·simp only[AV.ok,hin];refine⟨u,q,g,_,hb,hle,rfl,fun e=>⟨cap,?_,by simp⟩⟩;rw[<-heq e.symm,hxv,e]
  ·split at hk
   ·rename_i e' xs hxs;obtain⟨rfl,h0,h1,hk⟩:=hk;obtain⟨ad,cap,hxv,_,_,hrow⟩:=zH hx hxs;rcases hrow with hrow|⟨b,off,rfl,hrow⟩
    ·subst hrow;simp at h1;omega
    ·have hlt:m.toNat<xs.length:=by omega
     obtain⟨vs,hvs,hc,hcel⟩:=Lo hrow (aA hlt);refine⟨.pointer (some ⟨b,off+m.toNat*i.size,none⟩),w,β,env,s,_,?_,hst,?_,hk⟩
     ·simp only[execOp,hop,hxv,hv,aR,zE hu hi w b off xs.length cap j m h0 h1,aF,a_]
     ·simp only[AV.ok];refine⟨b,_,vs,rfl,by rw[hin];exact hc,?_⟩;rw[aB,aA hlt];exact KX hcel hc
   ·exact hk.elim
theorem P3{t e n len:Nat}{x ix:Operand}(hop:o.op=.indexAddr t x ix)(hu:P.underlying t=some (.array len e))(hn:kZ P e=some n)
 {m:Int} (hm:kr (ev env ix)=some m) (h0:0<=m) (h1:m<len) {r:AV}
 (hr:(∃id off,ev env x=.ptr id off/\r=.ptr id (off+m.toNat*n))\/(∃cs,ev env x=.pv cs/\r=.pv (cs.drop (m.toNat*n))))
 (hk:k (iU o.dst env r) s):mU P C o env s k:=by
 refine .value fun β a w hst=>?_
 obtain⟨i,hi,hin⟩:=kT hn;obtain⟨j,hv⟩:=uu (hst.ev ix) hm;have hx:=hst.ev x;have hrun:∀b off,(Instr.indexAt t (.pointer (some ⟨b,off,none⟩)) (.int j m)).run P w=.ok (.pointer (some ⟨b,off+m.toNat*n,none⟩)) w:=by
  intro b off;simp[Instr.indexAt,asIntOf,aY hu,h0,h1,Go.sizeOf,typeInfo,hi,hin,dA,Instr.sureAddr]
 rcases hr with⟨id,off,he,rfl⟩|⟨cs,he,rfl⟩
 ·rw[he]at hx;simp only[AV.ok]at hx;obtain⟨b,hb,hxv⟩:=hx;refine⟨.pointer (some ⟨b,off+m.toNat*n,none⟩),w,β,env,s,_,by simp only[execOp,hop,hxv,hv,aR,hrun,aF,a_],hst,?_,hk⟩;simp only[AV.ok];exact⟨b,hb,rfl⟩
 ·rw[he]at hx;simp only[AV.ok]at hx;obtain⟨b,off,vs,hxv,hc,h2⟩:=hx;refine⟨.pointer (some ⟨b,off+m.toNat*n,none⟩),w,β,env,s,_,by simp only[execOp,hop,hxv,hv,aR,hrun,aF,a_],hst,?_,hk⟩;simp only[AV.ok];refine⟨b,_,vs.drop (m.toNat*n),rfl,fun q v hj=>?_,zL _ h2⟩;rw[dj]at hj;have:=hc _ v hj;rwa [<-cM]at this
theorem P4{c:Call}(hop:o.op=.call c)(hc:c.callee=.builtin .len){x:Operand}(ha:c.args=#[x]){t:Nat}(ht:c.argTypes[0]?=some t)
 {e:Nat} (hu:P.underlying t=some (.slice e)) {n:Nat}
 (hv:∀β w v,AV.ok β (C.gO β s) w (ev env x) v->∃a cap,v=.slice a n cap)
 (hk:k (iU o.dst env (.d (iD n))) s):mU P C o env s k:=by
 refine .pure (x:=.d (iD n)) (fun β a w hst=>?_) hk;obtain⟨ad,cap,hx⟩:=hv _ _ _ (hst.ev x);exact⟨.int .i64 n,by simp[execOp,hop,resolve,hc,ha,invoke,builtin,Builtin.len_,ht,aY hu,hx,goInt],uF rfl⟩
theorem Vb{c:Call}(hop:o.op=.call c)(hc:c.callee=.builtin .len){x:Operand}(ha:c.args=#[x]){t:Nat}(ht:c.argTypes[0]?=some t)
 (hu:P.underlying t=some .string) {b:ByteArray} (hx:ev env x=.d (.lit (.string b)))
 (hk:k (iU o.dst env (.d (iD b.size))) s):mU P C o env s k:=by
 refine .pure (x:=.d (iD b.size)) (fun β a w hst=>?_) hk;have h:=hst.ev x;rw[hx]at h;have h:=ow h;exact⟨.int .i64 b.size,by simp[execOp,hop,resolve,hc,ha,invoke,builtin,Builtin.len_,ht,aY hu,h,goInt],uF rfl⟩
theorem Ya{t:Nat}{x i:Operand}(hop:o.op=.index t x i)(hu:P.underlying t=some .string){b:ByteArray}{kk:IntKind}{n:Int}(hx:ev env x=.d (.lit (.string b)))(hi:ev env i=.d (.lit (.int kk n)))(h0:0<=n)(h1:n<b.size)
 (hk:k (iU o.dst env (.d (.lit (.int .u8 (Iv b n.toNat))))) s):mU P C o env s k:=by
 refine .pure (x:=.d (.lit (.int .u8 (Iv b n.toNat)))) (fun β a w hst=>?_) hk;have g1:=hst.ev x;rw[hx]at g1;have g1:=ow g1;have g2:=hst.ev i;rw[hi]at g2;have g2:=ow g2;have hlt:n.toNat<b.size:=by omega
 have hg:b[n.toNat]?=some b[n.toNat]:=by simp[hlt]
 refine⟨.int .u8 (Iv b n.toNat),?_,uF rfl⟩;have hs:Iv b n.toNat=((b[n.toNat]).toNat:Int):=by
  unfold Iv;have hl2:n.toNat<b.data.size:=hlt;rw[ck hl2];rfl
 rw[hs];simp[execOp,hop,g1,g2,Instr.index,asIntOf,aY hu,h0,hg]
theorem Io{O:Own}{w:World}{b e:Nat}:∀{xs:List D}{o:Nat}(l:Nat),D.row O w b o e xs->D.row O w b (o+l*e) e (xs.drop l)
 |[],o,l=>fun _=>by simp[D.row]
 |x::xs,o,0=>fun h=>by simpa using h
 |x::xs,o,l+1=>fun h=>by
  rw[D.oq]at h;have:=Io l h.2;have e1:o+e+l*e=o+(l+1)*e:=by rw[bk];omega
  rw[e1]at this;simpa using this
theorem D0{O:Own}{w:World}{b e:Nat}:∀{xs:List D}{o:Nat}(l:Nat),D.row O w b o e xs->D.row O w b o e (xs.take l)
 |[],o,l=>fun _=>by simp[D.row]
 |x::xs,o,0=>fun _=>by simp[D.row]
 |x::xs,o,l+1=>fun h=>by
  rw[D.oq]at h;rw[ew,D.oq];exact⟨h.1,D0 l h.2⟩
theorem Di{β:gZ}{a:Act}{w:World}(hst:St C β env s a w){d n:Int}{x:Option Operand}(h:Ap env d x=some n):
 (x=none/\n=d)\/∃y j,x=some y/\a.eval y=.int j n:=by
 cases x with
 |none=>simp only[Ap,aM]at h;exact .inl ⟨rfl,h.symm⟩
 |some y=>
  simp only[Ap]at h;obtain⟨j,hj⟩:=uu (hst.ev y) h;exact .inr ⟨y,j,rfl,hj⟩
theorem yU{β:gZ}{a:Act}{w:World}(hst:St C β env s a w){lo hi:Option Operand}{l h:Int}(len cap:Nat)
 (hl:Ap env 0 lo=some l) (hh:Ap env len hi=some h) (h0:0<=l) (h1:l<=h) (h2:h<=len) (hc:len<=cap):
 (Instr.sliceBounds true len cap (lo.map a.eval) (hi.map a.eval) none).run P w=.ok (l.toNat,h.toNat,cap) w:=by
 have hb:∀(j:IntKind)(n:Int)(y:Nat)(c:BoundsCode),0<=n->n<=y->(Instr.sliceBound (.int j n) y c).run P w=.ok n.toNat w:=by
  intro j n y c h3 h4;simp[Instr.sliceBound,asIntOf,h3,h4]
 rcases Di hst hh with⟨rfl,rfl⟩|⟨yh,jh,rfl,eh⟩<;>rcases Di hst hl with⟨rfl,rfl⟩|⟨yl,jl,rfl,el⟩
 ·simp[Instr.sliceBounds]
 ·simp only[Instr.sliceBounds,dV,aX,el,aR,a_,aF];rw[hb jl l len _ h0 h1];simp
 ·simp only[Instr.sliceBounds,dV,aX,eh,aR,a_,aF];rw[hb jh h cap _ gu gu];simp
 ·simp only[Instr.sliceBounds,aX,eh,el,aR,a_,aF];rw[hb jh h cap _ gu gu];simp only[aF];rw[hb jl l h.toNat _ h0 gu];simp
theorem B9{β:gZ}{a:Act}{w:World}(hst:St C β env s a w){lo hi:Option Operand}{l h:Int}(len cap:Nat)
 (hl:Ap env 0 lo=some l) (hh:Ap env len hi=some h) (h0:0<=l) (h1:l<=h) (h2:h<=len) (hc:len<=cap):
 (Instr.sliceBounds false len cap (lo.map a.eval) (hi.map a.eval) none).run P w=.ok (l.toNat,h.toNat,cap) w:=by
 have hb:∀(j:IntKind)(n:Int)(y:Nat)(c:BoundsCode),0<=n->n<=y->(Instr.sliceBound (.int j n) y c).run P w=.ok n.toNat w:=by
  intro j n y c h3 h4;simp[Instr.sliceBound,asIntOf,h3,h4]
 rcases Di hst hh with⟨rfl,rfl⟩|⟨yh,jh,rfl,eh⟩<;>rcases Di hst hl with⟨rfl,rfl⟩|⟨yl,jl,rfl,el⟩
 ·simp[Instr.sliceBounds]
 ·simp only[Instr.sliceBounds,dV,aX,el,aR,a_,aF];rw[hb jl l len _ h0 h1];simp
 ·simp only[Instr.sliceBounds,dV,aX,eh,aR,a_,aF];rw[hb jh h cap _ gu gu];simp
 ·simp only[Instr.sliceBounds,aX,eh,el,aR,a_,aF];rw[hb jh h cap _ gu gu];simp only[aF];rw[hb jl l h.toNat _ h0 gu];simp
theorem Yh{t:Nat}{x:Operand}{lo hi:Option Operand}(hop:o.op=.slice t x lo hi none)(hu:P.underlying t=some .string){b:ByteArray}(hx:ev env x=.d (.lit (.string b))){l h:Int}(hl:Ap env 0 lo=some l)(hh:Ap env b.size hi=some h)(h0:0<=l)(h1:l<=h)(h2:h<=b.size)
 (hk:k (iU o.dst env (.d (.lit (.string (b.extract l.toNat h.toNat))))) s):mU P C o env s k:=by
 refine .pure (x:=.d (.lit (.string (b.extract l.toNat h.toNat)))) (fun β a w hst=>?_) hk;have g1:=hst.ev x;rw[hx]at g1;have g1:=ow g1;have hrun:=B9 (P:=P) hst (lo:=lo) (hi:=hi) b.size b.size hl hh h0 h1 h2 (aO _);refine⟨.string (b.extract l.toNat h.toNat),?_,uF rfl⟩;simp only[execOp,hop,Instr.sliceAt,aR,aY hu,aF,g1];simp[Instr.slice,aY hu,hrun]
theorem Yg{t e n:Nat}{x:Operand}{lo hi:Option Operand}(hop:o.op=.slice t x lo hi none)(hu:P.underlying t=some (.slice e))(hn:kZ P e=some n)
 {xs:List D} {e':Nat} (hxs:rM (ev env x)=some (e',xs)) (he:xs=[]\/e'=n) (hk:SK (ev env x) (Ap env 0 lo) (Ap env xs.length hi) fun r=>k (iU o.dst env r) s):mU P C o env s k:=by
 refine .value fun β a w hst=>?_
 obtain⟨i,hi',hin⟩:=kT hn;obtain⟨ad,cap,hxv,hcap,hnl,hrow⟩:=zH (hst.ev x) hxs;unfold SK at hk;rw[hxs]at hk;split at hk
 ·rename_i e2 ys l h he2 hl hh;cases he2;obtain⟨h0,h1,h2,hk⟩:=hk;have hcap1:xs.length<=cap:=hcap.1;have hrun:=yU (P:=P) hst (lo:=lo) (hi:=hi) xs.length cap hl hh h0 h1 h2 hcap.1;refine⟨.slice (if cap=l.toNat then ad else ad.map (·.add (l.toNat*n))) (h.toNat-l.toNat) (cap-l.toNat),w,β,env,s,_,?_,hst,?_,hk⟩
  ·simp only[execOp,hop,Instr.sliceAt,aR,aY hu,aF,hxv];simp[Instr.slice,aY hu,hrun,Go.sizeOf,typeInfo,hi',hin]
  ·simp only[AV.ok,D.ok];have hlen:((xs.take h.toNat).drop l.toNat).length=h.toNat-l.toNat:=by simp;omega
   refine⟨_,_,by rw[hlen],by rw[hlen];exact⟨gu,by have:=hcap.2;omega⟩,?_,?_⟩
   ·cases hq:y_ (ev env x)with
    |none=>trivial
    |some b=>
     have:=hnl b hq;cases b with
     |true=>
      obtain⟨rfl,rfl⟩:=this;refine⟨?_,gu⟩;split<;>rfl
     |false=>
      show _≠none;split
      ·exact this
      ·cases ad with
       |none=>exact absurd rfl this
       |some a=>simp
   ·rcases hrow with hrow|⟨b,off,rfl,hrow⟩
    ·subst hrow;left;simp
    ·by_cases hz:(xs.take h.toNat).drop l.toNat=[]
     ·exact .inl hz
     ·right;have hlt:l.toNat<h.toNat:=by
       rcases cG l.toNat h.toNat with h3|h3
       ·exact h3
       ·exfalso;apply hz;apply bp.1;rw[hlen];omega
      have hne:cap≠l.toNat:=by omega
      rcases he with he|he
      ·subst he;simp at hz
      ·subst he;exact⟨b,off+l.toNat*e',by rw[aJ hne];simp[dA],Io _ (D0 _ hrow)⟩
 ·exact hk.elim
theorem Vj{t e n:Nat}{x hh m:Operand}(hop:o.op=.slice t x none (some hh) (some m))(hu:P.underlying t=some (.slice e))(hn:kZ P e=some n)
 {xs:List D} {e':Nat} (hxs:rM (ev env x)=some (e',xs)) {h:Int} (h1:kr (ev env hh)=some h) (h2:kr (ev env m)=some h) (h0:0<=h) (hle:h<=xs.length)
 (hk:k (iU o.dst env (.BZ e' (xs.take h.toNat))) s):mU P C o env s k:=by
 refine .value fun β a w hst=>?_
 obtain⟨i,hi',hin⟩:=kT hn;obtain⟨ad,cap,hxv,hcap,hnl,hrow⟩:=zH (hst.ev x) hxs;obtain⟨jh,eh⟩:=uu (hst.ev hh) h1;obtain⟨jm,em⟩:=uu (hst.ev m) h2;have hcap1:xs.length<=cap:=hcap.1;have hb:∀(j:IntKind)(n:Int)(y:Nat)(c:BoundsCode),0<=n->n<=y->(Instr.sliceBound (.int j n) y c).run P w=.ok n.toNat w:=by
  intro j n y c h3 h4;simp[Instr.sliceBound,asIntOf,h3,h4]
 have hrun:(Instr.sliceBounds true xs.length cap none (some (a.eval hh)) (some (a.eval m))).run P w=.ok (0,h.toNat,h.toNat) w:=by
  simp only[Instr.sliceBounds,eh,em,aR,a_,aF];rw[hb jm h cap _ h0 gu];simp only[aF];rw[hb jh h h.toNat _ h0 gu];simp
 have hlen:(xs.take h.toNat).length=h.toNat:=by simp;omega
 refine⟨.slice (if h.toNat=0 then ad else ad.map (·.add 0)) h.toNat h.toNat,w,β,env,s,_,?_,hst,?_,hk⟩
 ·simp only[execOp,hop,Instr.sliceAt,aR,aY hu,aF,hxv];simp[Instr.slice,aY hu,hrun,Go.sizeOf,typeInfo,hi',hin]
 ·have had:(if h.toNat=0 then ad else ad.map (·.add 0))=ad:=by
   split
   ·rfl
   ·cases ad<;>simp[Addr.add]
  rw[had];simp only[AV.ok,D.ok];refine⟨ad,by rw[hlen],ad,h.toNat,by rw[hlen],by rw[hlen];exact⟨aO _,by have:=hcap.2;omega⟩,trivial,?_⟩;rcases hrow with hrow|⟨b,off,rfl,hrow⟩
  ·left;rw[hrow];simp
  ·right;exact⟨b,off,rfl,D0 _ hrow⟩
theorem P6{t e n len:Nat}{x:Operand}{hi:Option Operand}(hlen:len<2^62)(hop:o.op=.slice t x none hi none)(hu:P.underlying t=some (.array len e))(hn:kZ P e=some n)
 {id off:Nat} (hx:ev env x=.ptr id off) {h:Int} (hh:Ap env len hi=some h) (h0:0<=h) (h1:h<=len)
 (hk:k (iU o.dst env (.tS n id off h.toNat)) s):mU P C o env s k:=by
 refine .value fun β a w hst=>?_
 obtain⟨i,hi',hin⟩:=kT hn;have hv:=hst.ev x;rw[hx]at hv;simp only[AV.ok]at hv;obtain⟨b,hb,hxv⟩:=hv;refine⟨.slice (some ⟨b,off,none⟩) h.toNat len,w,β,env,s,_,?_,hst,?_,hk⟩
 ·have hsb:(Instr.sliceBounds false len len none (hi.map a.eval) none).run P w=.ok (0,h.toNat,len) w:=by
   rcases Di hst hh with⟨rfl,rfl⟩|⟨yh,jh,rfl,eh⟩
   ·simp[Instr.sliceBounds]
   ·simp[Instr.sliceBounds,eh,Instr.sliceBound,asIntOf,h0,h1]
  simp[execOp,hop,Instr.sliceAt,aY hu,hxv,Instr.sureAddr,hsb,Go.sizeOf,typeInfo,hi'];simp[Addr.add]
 ·simp only[AV.ok];exact⟨b,len,hb,gu,rfl⟩
end
theorem jW.append{O:Own}{w:World}{b o:Nat}{vs us:List Value}(h:jW O w b o vs)(k:jW O w b (o+vs.length) us):jW O w b o (vs++us):=by
 intro j v hj;rw[List.getElem?_append]at hj;split at hj
 ·exact h j v hj
 ·rename_i hlt;have:=k _ v hj;have e1:o+vs.length+(j-vs.length)=o+j:=by omega
  rwa [e1]at this
theorem wN{O:Own}{w:World}{b e:Nat}:∀{xs:List D}{o:Nat},D.row O w b o e xs->
 ∃vs,vs.length=xs.length*e/\jW O w b o vs/\∀(O':Own)(w':World)(b' o':Nat),
  (∀b o v,w.cell? ⟨b,o,none⟩=some v->¬O b o->w'.cell? ⟨b,o,none⟩=some v/\¬O' b o)->jW O' w' b' o' vs->D.row O' w' b' o' e xs
 |[],o=>fun _=>⟨[],by simp,fun j v hj=>by simp at hj,fun _ _ _ _ _ _=>by simp[D.row]⟩
 |x::xs,o=>fun h=>by
  rw[D.oq]at h;obtain⟨⟨us,h1,h2,h3⟩,h4⟩:=h;obtain⟨vs,k1,k2,k3⟩:=wN h4;refine⟨us++vs,by simp[h1,k1,bk];omega,h2.append (by rw[h1];exact k2),fun O' w' b' o' hm hc=>?_⟩;rw[D.oq];refine⟨⟨us,h1,fun j v hj=>?_,?_⟩,k3 O' w' b' (o'+e) hm fun j v hj=>?_⟩
  ·have hlt:j<us.length:=(aN.1 hj).1;exact hc j v (by rw[aZ hlt];exact hj)
  ·cases x with
   |agg cs=>exact D.kj hm _ _ h3
   |any=>obtain⟨v,h5,h6⟩:=h3;exact⟨v,h5,D.ke hm _ _ h6⟩
   |lit u=>obtain⟨v,h5,h6⟩:=h3;exact⟨v,h5,D.ke hm _ _ h6⟩
   |sl e' nl ys=>obtain⟨v,h5,h6⟩:=h3;exact⟨v,h5,D.ke hm _ _ h6⟩
  ·have:=hc (us.length+j) v (by rw[bN gu];simpa using hj);rw[h1]at this;rwa [cM]
theorem uX{O:Own}{w:World}{b e:Nat}:∀{xs ys:List D}{o:Nat},D.row O w b o e xs->D.row O w b (o+xs.length*e) e ys->D.row O w b o e (xs++ys)
 |[],ys,o=>fun _ h=>by simpa using h
 |x::xs,ys,o=>fun h k=>by
  rw[D.oq]at h;rw[bH,D.oq];refine⟨h.1,uX h.2 ?_⟩;have e1:o+(x::xs).length*e=o+e+xs.length*e:=by simp[bk];omega
  rwa [e1]at k
theorem u_{O:Own}{w:World}{b o:Nat}{c:Array Value}{t:Nat}{fr:Nat×Nat}{vs:List Value}(hh:w.heap[b]?=some (.cells c t fr))
 (hc:∀j v,vs[j]?=some v->c.toList[o+j]?=some v) (ho:∀j,j<vs.length->¬O b (o+j)) (h1:∀v∈vs,one v=true):jW O w b o vs:=by
 intro j v hj;have hlt:j<vs.length:=(aN.1 hj).1;refine⟨?_,ho j hlt,h1 v (bV hj)⟩;simp only[World.cell?,hh,bR,ah,ay];simpa using hc j v hj
theorem jW.one{O:Own}{w:World}{b o:Nat}{vs:List Value}(h:jW O w b o vs):∀v∈vs,one v=true:=fun v hv=>by
 obtain⟨i,hi⟩:=cC hv;exact(h i v hi).2.2
theorem yH{C:Ctx}{β:gZ}{env:List AV}{s:gQ}{a:Act}{w:World}(h:St C β env s a w){id t e n cap:Nat}{c:Array Value}{xs:List D}
 (hpl:mG (β id) (.tok (.slice (some ⟨w.heap.size,0,none⟩) n cap) n))
 (hsz:c.size=cap*e) (hn:n<=cap) (hcap:cap<2^63) (h1:∀v∈c.toList,one v=true) (hx:xs.length=n)
 (hrow:∀(O':Own)(w':World),(∀b o v,w.cell? ⟨b,o,none⟩=some v->¬C.gO β s b o->w'.cell? ⟨b,o,none⟩=some v/\¬O' b o)->
  jW O' w' w.heap.size 0 (c.toList.take (n*e))->D.row O' w' w.heap.size 0 e xs):
 ∃β',St C β' env (sset s id (.tok t e n)) a (w.alloc (.cells c t))/\
  AV.ok β' (C.gO β' (sset s id (.tok t e n))) (w.alloc (.cells c t)) (.own e id xs) (.slice (some ⟨w.heap.size,0,none⟩) n cap):=by
 obtain⟨h2,m⟩:=h.fresh (id:=id) (ob:=.tok t e n) (p:=.tok (.slice (some ⟨w.heap.size,0,none⟩) n cap) n) (c:=c) (t:=t) hpl
  (fun b o ho=>by
   obtain⟨i,ho⟩:=ho;by_cases hi:i=id
   ·subst hi;simp only[sat,aj,gG]at ho;obtain⟨cap',ho,_⟩:=ho;simp at ho;exact ho.1.symm
   ·simp[sat,hi]at ho)
  (fun b hb=>by
   simp only[gy,sat,aj,gG]at hb;obtain⟨cap',hb⟩:=hb;simp at hb;exact hb.1.symm)
  (fun β' F _ _ hp=>⟨_,hp,.inr ⟨w.heap.size,cap,c,rfl,cW,hsz,hn,hcap,h1⟩⟩)
 refine⟨_,h2,?_⟩;simp only[AV.ok,D.ok];refine⟨⟨_,cap,by rw[hx],⟨gu,hcap⟩,trivial,?_⟩,_,n,by simp[gG,Place.at],gu,fun _=>rfl⟩;right;refine⟨w.heap.size,0,rfl,hrow _ _ m.stays ?_⟩;refine u_ cW (fun j v hj=>?_) (fun j hj hf=>?_) (fun v hv=>h1 v (bg hv))
 ·rw[bL]at hj;split at hj
  ·simpa using hj
  ·cases hj
 ·rcases hf with hf|hf
  ·have:=(h.inv.low _ _ hf).1;have:=h.inv.size;omega
  ·rcases sX hf with hf|hf
   ·have:=h.inv.J_ hf;omega
   ·obtain⟨i,hf⟩:=hf;by_cases hi:i=id
    ·subst hi;simp only[sat,aj,gG]at hf;obtain⟨_,_,hf⟩:=hf;have:(c.toList.take (n*e)).length<=n*e:=List.length_take_le _ _;omega
    ·simp[sat,hi]at hf
theorem Ka{C:Ctx}{β:gZ}{env:List AV}{s:gQ}{a:Act}{w:World}(h:St C β env s a w){id:Nat}(t e:Nat)(hd:sat s id=.dead):
 ∃β',St C β' env (sset s id (.tok t e 0)) a w/\AV.ok β' (C.gO β' (sset s id (.tok t e 0))) w (.own e id []) (.slice none 0 0):=by
 have hno:β id=.no:=by have:=h.inv.obs id;rw[hd]at this;exact this
 have hown:∀b o,own (gG β id (.tok (.slice none 0 0) 0)) (sset s id (.tok t e 0)) b o->own β s b o:=by
  intro b o ho;rcases sX ho with ho|ho
  ·exact ho
  ·obtain⟨i,ho⟩:=ho;by_cases hi:i=id
   ·subst hi;simp[sat,gG]at ho
   ·simp[sat,hi]at ho
 have hblk:∀i b,gy (gG β id (.tok (.slice none 0 0) 0)) (sset s id (.tok t e 0)) i b->gy β s i b:=by
  intro i b hb;rcases jk hb with⟨_,hb⟩|⟨_,hb⟩
  ·exact hb
  ·simp[gy,sat,gG]at hb
 have m:mu β s w (gG β id (.tok (.slice none 0 0) 0)) (sset s id (.tok t e 0)) w:=
  ⟨aO _,rfl,fun _ _ _ hc _=>hc,fun _ _ _=>rfl,fun b o ho=>.inl (hown b o ho),fun i b hb=>.inl ⟨i,hblk i b hb⟩,fun i=>by
   by_cases hi:i=id
   ·subst hi;rw[hno];trivial
   ·simp only[gG,hi,ay];exact .refl _⟩
 refine⟨_,h.move m (fun i=>?_) (fun i j b hi hj=>h.inv.inj i j b (hblk i b hi) (hblk j b hj)),?_⟩
 ·rw[iE];by_cases hi:i=id
  ·subst hi;simp only[aj];exact⟨.slice none 0 0,by simp[gG],.inl ⟨rfl,rfl⟩⟩
  ·simp only[hi,ay];exact(h.inv.obs i).sJ m (by simp[gG,hi]) (fun _ _=>rfl) rfl
 ·simp only[AV.ok,D.ok];exact⟨⟨none,0,rfl,⟨aO _,gu⟩,trivial,.inl trivial⟩,_,0,by simp[gG,Place.at],aO _,fun _=>rfl⟩
section
variable{P:Program}{C:Ctx}{o:Oper}{env:List AV}{s:gQ}{k:List AV->gQ->Prop}
theorem qt{w:World}{size n len cap:Nat}{a:Option Addr}{vs:List Value}(hl:vs.length=n*size)
 (hc:vs=[]\/∃b o,a=some ⟨b,o,none⟩/\∀j v,vs[j]?=some v->w.cell? ⟨b,o+j,none⟩=some v):
 (Builtin.firstCells size n (.slice a len cap)).run P w=.ok vs.toArray w:=by
 rcases hc with rfl|⟨b,off,rfl,hc⟩
 ·cases a with
  |none=>simp[Builtin.firstCells]
  |some a=>simp[Builtin.firstCells,<-hl,loadCells,loadCellsFrom]
 ·have:=run_loadCells_list (P:=P) w ⟨b,off,none⟩ vs (fun j v hj=>by rw[dA];exact hc j v hj);rw[hl]at this;simpa[Builtin.firstCells]using this
theorem r_{w:World}(t u ty e e2:TypeId)(i:TypeInfo)(ht:P.underlying t=some (.slice e))(hu:P.underlying u=some (.slice e2))(hi:P.info? e=some i)
 (g sLen sCap:Nat) (cur:Array Value) (el:Nat) (hg:w.heap[g]?=some (.cells cur el (0,0)))
 (a:Option Addr) (m c:Nat) (news:List Value) (hl:news.length=m*i.size)
 (hnews:news=[]\/∃b o,a=some ⟨b,o,none⟩/\∀j v,news[j]?=some v->w.cell? ⟨b,o+j,none⟩=some v) (h1:∀u∈news,one u=true)
 (hroom:sLen+m<=sCap) (hfit:sLen*i.size+news.length<=cur.size):
 (Builtin.append_ #[t,u] ty #[.slice (some ⟨g,0,none⟩) sLen sCap,.slice a m c]).run P w=
  .ok (.slice (some ⟨g,0,none⟩) (sLen+m) sCap) (w.setRow g (cur.toList.take (sLen*i.size)++news++cur.toList.drop (sLen*i.size+news.length)).toArray):=by
 have hf:=qt (P:=P) (w:=w) (size:=i.size) (n:=m) (len:=m) (cap:=c) (a:=a) hl hnews;have hst:=eL P g (sLen*i.size) el news 0 cur w hg (by simpa using hfit) (fun v hv=>xA (h1 v hv));simp only[cP]at hst;simp[Builtin.append_,aY ht,aY hu,Go.sizeOf,typeInfo,hi,Builtin.lenOf,hroom,hf,dA,hst]
theorem qq{w:World}(t u ty e e2:TypeId)(i:TypeInfo)(z:Value)(ht:P.underlying t=some (.slice e))(hu:P.underlying u=some (.slice e2))(hi:P.info? e=some i)(hz:i.zero=some z)
 (b:Option Addr) (sLen sCap:Nat) (olds:List Value) (hlo:olds.length=sLen*i.size)
 (holds:olds=[]\/∃b' o,b=some ⟨b',o,none⟩/\∀j v,olds[j]?=some v->w.cell? ⟨b',o+j,none⟩=some v)
 (a:Option Addr) (n c:Nat) (news:List Value) (hl:news.length=n*i.size)
 (hnews:news=[]\/∃b o,a=some ⟨b,o,none⟩/\∀j v,news[j]?=some v->w.cell? ⟨b,o+j,none⟩=some v)
 (hg:sCap<sLen+n) (h63:((sLen+n:Nat):Int)<=9223372036854775807) (hfit:Builtin.nextslicecap (sLen+n) sCap*i.bytes<=281474976710656):
 (Builtin.append_ #[t,u] ty #[.slice b sLen sCap,.slice a n c]).run P w=
  .ok (.slice (some ⟨w.heap.size,0,none⟩) (sLen+n) (grownCap w (sLen+n) sCap e))
   (w.drew.alloc (.cells (olds.toArray++news.toArray++Builtin.zeroCells z.cells (grownCap w (sLen+n) sCap e-(sLen+n))) e)):=by
 have hn:¬(sLen+n<=sCap):=by omega
 have h63':¬(9223372036854775807<((sLen:Int)+(n:Int))):=by omega
 have h48':¬(281474976710656<Builtin.nextslicecap (sLen+n) sCap*i.bytes):=by omega
 have hf:=qt (P:=P) (w:=w.drew) (size:=i.size) (n:=n) (len:=n) (cap:=c) (a:=a) hl (by simpa using hnews);have hfo:=qt (P:=P) (w:=w.drew) (size:=i.size) (n:=sLen) (len:=sLen) (cap:=sCap) (a:=b) hlo (by simpa using holds);simp[Builtin.append_,aY ht,aY hu,Go.sizeOf,typeInfo,zeroValue,hi,hz,Builtin.lenOf,hn,h63',h48',Question.forced,hf,hfo,newRow,grownCap];congr 2;apply cO;simp[aI]
theorem pS{z:Array Value}(h:∀v∈z.toList,one v=true)(n:Nat):∀v∈(Builtin.zeroCells z n).toList,one v=true:=by
 intro v hv;simp only[Builtin.zeroCells]at hv;simp at hv;obtain⟨i,hi,rfl⟩:=hv;by_cases hz:z.size=0
 ·simp[hz]at hi
 ·have hlt:i%z.size<z.size:=Nat.mod_lt _ gu;rw[getElem!_pos z _ hlt];exact h _ (Array.getElem_mem_toList hlt)
theorem uJ{α:Type}(xs ys:List α)(n:Nat)(h:xs.length=n):(xs++ys).take n=xs:=by subst h;simp
theorem FG{β:gZ}{w:World}{y:AV}{v:Value}{e2 e:Nat}{ys:List D}(hy:AV.ok β (C.gO β s) w y v)(hs:rM y=some (e2,ys))(he:ys=[]\/e2=e):
 ∃a cap news,v=.slice a ys.length cap/\news.length=ys.length*e/\(∀u∈news,one u=true)/\
  (news=[]\/∃b o,a=some ⟨b,o,none⟩/\jW (C.gO β s) w b o news)/\
  ∀(O':Own)(w':World)(b' o':Nat),(∀b o v,w.cell? ⟨b,o,none⟩=some v->¬C.gO β s b o->w'.cell? ⟨b,o,none⟩=some v/\¬O' b o)->
   jW O' w' b' o' news->D.row O' w' b' o' e ys:=by
 obtain⟨a,cap,h1,_,_,h4⟩:=zH hy hs;rcases h4 with rfl|⟨b,off,rfl,h4⟩
 ·exact⟨a,cap,[],h1,by simp,by simp,.inl rfl,fun _ _ _ _ _ _=>by simp[D.row]⟩
 ·rcases he with rfl|rfl
  ·exact⟨_,cap,[],h1,by simp,by simp,.inl rfl,fun _ _ _ _ _ _=>by simp[D.row]⟩
  ·obtain⟨vs,k1,k2,k3⟩:=wN h4;exact⟨_,cap,vs,h1,k1,k2.one,.inr ⟨b,off,rfl,k2⟩,k3⟩
end
theorem KZ{β β':gZ}{O F:Own}{w w':World}(h:∀x v,AV.ok β O w x v->AV.ok β' F w' x v){ds:List D}{vs:List Value}(k:D.iK O w ds vs):D.iK F w' ds vs:=by
 rw[D.kM]at k⊢;exact⟨k.1,fun i x v hx hv=>⟨(k.2 i x v hx hv).1,by have:=h (.d x) v (by simpa[AV.ok]using(k.2 i x v hx hv).2);simpa[AV.ok]using this⟩⟩
theorem tO{O:Own}{w:World}{xs ys:List D}{vs us:List Value}(h:D.iK O w xs vs)(k:D.iK O w ys us):D.iK O w (xs++ys) (vs++us):=by
 induction xs generalizing vs with
 |nil=>simp only[D.iK]at h;subst h;simpa using k
 |cons x xs ih=>
  simp only[D.iK]at h;obtain⟨v,r,rfl,h0,h1,h2⟩:=h;simp only[bH,D.iK];exact⟨v,r++us,rfl,h0,h1,ih h2⟩
theorem Ip{O:Own}{w:World}{b e:Nat}:∀{xs:List D}{o:Nat},D.row O w b o e xs->
 ∃vs,vs.length=xs.length*e/\jW O w b o vs/\D.iK O w (xs.flatMap gD) vs
 |[],o=>fun _=>⟨[],by simp,fun j v hj=>by simp at hj,by simp[D.iK]⟩
 |x::xs,o=>fun h=>by
  rw[D.oq]at h;obtain⟨⟨us,h1,h2,h3⟩,h4⟩:=h;obtain⟨vs,k1,k2,k3⟩:=Ip h4;refine⟨us++vs,by simp[h1,k1,bk];omega,h2.append (by rw[h1];exact k2),?_⟩;rw[cn];exact tO (KX h3 h2) k3
theorem D9{β:gZ}{O:Own}{w:World}{y:AV}{v:Value}{e2 e:Nat}{ys:List D}(hy:AV.ok β O w y v)(hs:rM y=some (e2,ys))(he:ys=[]\/e2=e):
 ∃a cap news,v=.slice a ys.length cap/\news.length=ys.length*e/\(∀u∈news,one u=true)/\
  (news=[]\/∃b o,a=some ⟨b,o,none⟩/\jW O w b o news)/\D.iK O w (ys.flatMap gD) news:=by
 obtain⟨a,cap,h1,_,_,h4⟩:=zH hy hs;rcases h4 with rfl|⟨b,off,rfl,h4⟩
 ·exact⟨a,cap,[],h1,by simp,by simp,.inl rfl,by simp[D.iK]⟩
 ·rcases he with rfl|rfl
  ·exact⟨_,cap,[],h1,by simp,by simp,.inl rfl,by simp[D.iK]⟩
  ·obtain⟨vs,k1,k2,k3⟩:=Ip h4;exact⟨_,cap,vs,h1,k1,k2.one,.inr ⟨b,off,rfl,k2⟩,k3⟩
theorem St.same{C:Ctx}{β:gZ}{env:List AV}{s s':gQ}{a:Act}{w:World}(hst:St C β env s a w)(hsame:∀q,sat s' q=sat s q):St C β env s' a w:=by
 have hown:∀b o,own β s' b o<->own β s b o:=by intro b o;unfold own;simp only[hsame]
 have hblk:∀q b,gy β s' q b<->gy β s q b:=by intro q b;unfold gy;simp only[hsame]
 have m:mu β s w β s' w:=
  ⟨aO _,rfl,fun _ _ _ h _=>h,fun _ _ _=>rfl,fun b o h=>.inl ((hown b o).1 h),fun q b h=>.inl ⟨q,(hblk q b).1 h⟩,fun _=>.refl _⟩
 exact hst.move m (fun q=>by rw[hsame];exact(hst.inv.obs q).sJ m rfl (fun _ _=>rfl) rfl) (fun p q b hp hq=>hst.inv.inj p q b ((hblk p b).1 hp) ((hblk q b).1 hq))
theorem DG{C:Ctx}{β:gZ}{env:List AV}{s:gQ}{a:Act}{w:World}(h:St C β env s a w){id t e n cap:Nat}{c:Array Value}{cs:List D}{pre rest:List Value}
 (hpl:mG (β id) (.tok (.slice (some ⟨w.heap.size,0,none⟩) n cap) n))
 (hsz:c.size=cap*e) (hn:n<=cap) (hcap:cap<2^63) (h1:∀v∈c.toList,one v=true) (hl:cs.length=n*e)
 (hc:c.toList=pre++rest) (hcs:D.iK (C.gO β s) w cs pre):
 ∃β',St C β' env (sset s id (.lO t e n cs)) a (w.alloc (.cells c t))/\
  AV.ok β' (C.gO β' (sset s id (.lO t e n cs))) (w.alloc (.cells c t)) (.mL e id n) (.slice (some ⟨w.heap.size,0,none⟩) n cap):=by
 obtain⟨h2,m⟩:=h.fresh (id:=id) (ob:=.lO t e n cs) (p:=.tok (.slice (some ⟨w.heap.size,0,none⟩) n cap) n) (c:=c) (t:=t) hpl
  (fun b o ho=>by
   obtain⟨i,ho⟩:=ho;by_cases hi:i=id
   ·subst hi;simp only[sat,aj,gG]at ho;obtain⟨cap',ho⟩:=ho;simp at ho;exact ho.1.symm
   ·simp[sat,hi]at ho)
  (fun b hb=>by
   simp only[gy,sat,aj,gG]at hb;obtain⟨cap',hb⟩:=hb;simp at hb;exact hb.1.symm)
  (fun β' F hx _ hp=>⟨_,hp,hl,.inr ⟨w.heap.size,cap,c,rfl,cW,hsz,hn,hcap,h1,pre,rest,hc,KZ hx hcs⟩⟩)
 refine⟨_,h2,?_⟩;simp only[AV.ok];exact⟨_,n,by simp[gG,Place.at],aO _,fun _=>rfl,.inr ⟨_,cap,rfl,hn,hcap⟩⟩
theorem HP{C:Ctx}{β:gZ}{env:List AV}{s:gQ}{a:Act}{w:World}(h:St C β env s a w){id g t e n n' cap:Nat}{cs cs':List D}{vs vs':Array Value}{pre rest:List Value}
 (hs:sat s id=.lO t e n cs) (hb:β id=.tok (.slice (some ⟨g,0,none⟩) n cap) n) (hh:w.heap[g]?=some (.cells vs t (0,0)))
 (hnn:n<=n') (hsz:vs'.size=cap*e) (hn:n'<=cap) (hcap:cap<2^63) (h1:∀v∈vs'.toList,one v=true) (hl:cs'.length=n'*e)
 (hc:vs'.toList=pre++rest) (hcs:D.iK (C.gO β s) w cs' pre):
 ∃β',St C β' env (sset s id (.lO t e n' cs')) a (w.setRow g vs')/\
  AV.ok β' (C.gO β' (sset s id (.lO t e n' cs'))) (w.setRow g vs') (.mL e id n') (.slice (some ⟨g,0,none⟩) n' cap):=by
 have hbl:gy β s id g:=by unfold gy;rw[hs];exact⟨cap,hb⟩
 obtain⟨hst',m⟩:=h.Vt (id:=id) (b:=g) (ob:=.lO t e n' cs') (p:=.tok (.slice (some ⟨g,0,none⟩) n' cap) n') (w':=w.setRow g vs') hbl (by simp) (by simp[EL])
  (fun b' hb'=>dZ w g b' vs' (fun e=>hb' e))
  (fun o v _ hn=>absurd ⟨id,by rw[hs];exact⟨cap,hb⟩⟩ hn)
  (fun b' o ho=>by
   obtain⟨i,ho⟩:=ho;by_cases hi:i=id
   ·subst hi;simp only[sat,aj,gG]at ho;obtain⟨cap',ho⟩:=ho;simp at ho;obtain⟨rfl,_⟩:=ho;exact⟨i,by rw[hs];exact⟨cap,hb⟩⟩
   ·simp[sat,hi]at ho)
  (fun b' hb'=>by
   simp only[gy,sat,aj,gG]at hb';obtain⟨_,hb'⟩:=hb';simp at hb';exact hb'.1.symm)
  (by rw[hb];exact⟨_,_,rfl,hnn,fun e=>by subst e;rfl⟩)
  (fun β' F hx _ hp=>⟨_,hp,hl,.inr ⟨g,cap,vs',rfl,dS w g vs vs' t (0,0) hh,hsz,hn,hcap,h1,pre,rest,hc,KZ hx hcs⟩⟩)
 refine⟨_,hst',?_⟩;simp only[AV.ok];exact⟨_,n',by simp[gG,Place.at],aO _,fun _=>rfl,.inr ⟨_,cap,rfl,hn,hcap⟩⟩
theorem JJ{C:Ctx}{β:gZ}{env:List AV}{s:gQ}{a:Act}{w:World}(h:St C β env s a w){id:Nat}(t e:Nat)(hd:sat s id=.dead):
 ∃β',St C β' env (sset s id (.lO t e 0 [])) a w/\AV.ok β' (C.gO β' (sset s id (.lO t e 0 []))) w (.mL e id 0) (.slice none 0 0):=by
 have hno:β id=.no:=by have:=h.inv.obs id;rw[hd]at this;exact this
 have hown:∀b o,own (gG β id (.tok (.slice none 0 0) 0)) (sset s id (.lO t e 0 [])) b o->own β s b o:=by
  intro b o ho;rcases sX ho with ho|ho
  ·exact ho
  ·obtain⟨i,ho⟩:=ho;by_cases hi:i=id
   ·subst hi;simp[sat,gG]at ho
   ·simp[sat,hi]at ho
 have hblk:∀i b,gy (gG β id (.tok (.slice none 0 0) 0)) (sset s id (.lO t e 0 [])) i b->gy β s i b:=by
  intro i b hb;rcases jk hb with⟨_,hb⟩|⟨_,hb⟩
  ·exact hb
  ·simp[gy,sat,gG]at hb
 have m:mu β s w (gG β id (.tok (.slice none 0 0) 0)) (sset s id (.lO t e 0 [])) w:=
  ⟨aO _,rfl,fun _ _ _ hc _=>hc,fun _ _ _=>rfl,fun b o ho=>.inl (hown b o ho),fun i b hb=>.inl ⟨i,hblk i b hb⟩,fun i=>by
   by_cases hi:i=id
   ·subst hi;rw[hno];trivial
   ·simp only[gG,hi,ay];exact .refl _⟩
 refine⟨_,h.move m (fun i=>?_) (fun i j b hi hj=>h.inv.inj i j b (hblk i b hi) (hblk j b hj)),?_⟩
 ·rw[iE];by_cases hi:i=id
  ·subst hi;simp only[aj];exact⟨.slice none 0 0,by simp[gG],by simp,.inl ⟨rfl,rfl⟩⟩
  ·simp only[hi,ay];exact(h.inv.obs i).sJ m (by simp[gG,hi]) (fun _ _=>rfl) rfl
 ·simp only[AV.ok];exact⟨_,0,by simp[gG,Place.at],aO _,fun _=>rfl,.inl ⟨none,rfl,trivial⟩⟩
theorem OS{C:Ctx}{β:gZ}{env:List AV}{s:gQ}{a:Act}{w:World}(h:St C β env s a w){id t e e' n:Nat}{cs:List D}{v:Value}
 (hs:sat s id=.lO t e n cs) (hv:AV.ok β (C.gO β s) w (.mL e' id n) v):
 β id=.tok v n/\cs.length=n*e/\S1 (C.gO β s) w t e n v cs:=by
 have ho:=h.inv.obs id;rw[hs]at ho;obtain⟨u,h1,h2,h3⟩:=ho;simp only[AV.ok]at hv;obtain⟨u',m,k1,k2,k3,k4⟩:=hv;rw[h1]at k1;obtain⟨rfl,rfl⟩:=k1;have:=k3 rfl;subst this;exact⟨h1,h2,h3⟩
section
variable{P:Program}{C:Ctx}{o:Oper}{env:List AV}{s:gQ}{k:List AV->gQ->Prop}
theorem B8{w:World}(t u ty e e2:TypeId)(i:TypeInfo)(ht:P.underlying t=some (.slice e))(hu:P.underlying u=some (.slice e2))(hi:P.info? e=some i)
 (ad:Option Addr) (c:Nat):(Builtin.append_ #[t,u] ty #[.slice none 0 0,.slice ad 0 c]).run P w=.ok (.slice none 0 0) w:=by
 have hf:=qt (P:=P) (w:=w) (size:=i.size) (n:=0) (len:=0) (cap:=c) (a:=ad) (vs:=[]) (by simp) (.inl rfl);simp[Builtin.append_,aY ht,aY hu,Go.sizeOf,typeInfo,hi,Builtin.lenOf,hf]
theorem DF{β:gZ}{a:Act}{w:World}(hst:St C β env s a w){t u ty e e2 sz by':Nat}{i:TypeInfo}{z:Value}
 (ht:P.underlying t=some (.slice e)) (hu:P.underlying u=some (.slice e2)) (hi:P.info? e=some i) (hz:i.zero=some z) (hsz:i.size=sz) (hb:i.bytes=by') (hb0:0<by')
 (hz1:z.cells.size=i.size) (hz2:∀v∈z.cells.toList,one v=true)
 {base:Option Addr} {sLen sCap:Nat} {cs:List D} {olds:List Value} (hlo:olds.length=sLen*sz) (hlo1:∀v∈olds,one v=true)
 (holds:olds=[]\/∃b' o,base=some ⟨b',o,none⟩/\∀j v,olds[j]?=some v->w.cell? ⟨b',o+j,none⟩=some v)
 (hcs:D.iK (C.gO β s) w cs olds)
 {ad:Option Addr} {c m:Nat} {ys:List D} {news:List Value} (hln:news.length=m*sz) (hln1:∀v∈news,one v=true)
 (hnews:news=[]\/∃b o,ad=some ⟨b,o,none⟩/\jW (C.gO β s) w b o news)
 (hys:D.iK (C.gO β s) w ys news)
 (hg:sCap<sLen+m) (hbd:(sLen+m)*by'<=2^47) {id:Nat} (hpl:mG (β id) (.tok (.slice (some ⟨w.heap.size,0,none⟩) (sLen+m) (grownCap w (sLen+m) sCap e)) (sLen+m))):
 ∃v w' β',(Builtin.append_ #[t,u] ty #[.slice base sLen sCap,.slice ad m c]).run P w=.ok v w'/\
  St C β' env (sset s id (.lO e sz (sLen+m) (cs++ys))) a w'/\AV.ok β' (C.gO β' (sset s id (.lO e sz (sLen+m) (cs++ys)))) w' (.mL sz id (sLen+m)) v:=by
 have hneed:sLen+m<=2^47:=bP (cj _ hb0) hbd;have hrun:=qq (P:=P) (w:=w) t u ty e e2 i z ht hu hi hz base sLen sCap olds (by rw[hsz];exact hlo) holds ad m c news (by rw[hsz];exact hln)
  (hnews.imp (fun x=>x) fun⟨b',o',h1,h2⟩=>⟨b',o',h1,fun j v hj=>(h2 j v hj).1⟩) hg gu (by rw[hb];exact eI hg (by simpa using hbd))
 have hcap1:=eK w (sLen+m) sCap e;have hcap2:=dB w (sLen+m) sCap e (by unfold Go.maxLen;omega);have hcell:(olds.toArray++news.toArray++Builtin.zeroCells z.cells (grownCap w (sLen+m) sCap e-(sLen+m))).toList=olds++news++(Builtin.zeroCells z.cells (grownCap w (sLen+m) sCap e-(sLen+m))).toList:=by simp
 have hst':St C β env s a w.drew:=hst.drew;have hoks:=tO hcs hys;have hlen:=D.iS hoks;have hoks':D.iK (C.gO β s) w.drew (cs++ys) (olds++news):=D.kj (O:=C.gO β s) (w:=w) (w':=w.drew) (fun _ _ _ hc hn=>⟨hc,hn⟩) _ _ hoks;obtain⟨β',h1,h2⟩:=DG hst' (id:=id) (t:=e) (e:=sz) (n:=sLen+m) (cap:=grownCap w (sLen+m) sCap e) (cs:=cs++ys)
  (c:=olds.toArray++news.toArray++Builtin.zeroCells z.cells (grownCap w (sLen+m) sCap e-(sLen+m))) (pre:=olds++news) hpl
  (by
   rw[cH,cH,d_,hz1,hsz];simp only[cz,hlo,hln];rw[<-bk,<-bk];congr 1;omega)
  hcap1 (by unfold Go.maxLen at hcap2;omega)
  (fun v hv=>by
   rw[hcell]at hv;simp only[aG]at hv;rcases hv with(hv|hv)|hv
   ·exact hlo1 v hv
   ·exact hln1 v hv
   ·exact pS hz2 _ v hv)
  (by rw[<-hlen,au,hlo,hln,bk]) hcell
  hoks'
 exact⟨_,_,β',hrun,h1,h2⟩
theorem Q5{β:gZ}{a:Act}{w:World}(hst:St C β env s a w){t u ty e e2 sz by':Nat}{i:TypeInfo}{z:Value}
 (ht:P.underlying t=some (.slice e)) (hu:P.underlying u=some (.slice e2)) (hi:P.info? e=some i) (hz:i.zero=some z) (hsz:i.size=sz) (hb:i.bytes=by') (hb0:0<by')
 (hz1:z.cells.size=i.size) (hz2:∀v∈z.cells.toList,one v=true)
 {j n:Nat} {cs:List D} (hsj:sat s j=.lO e sz n cs) {v:Value} (hx:AV.ok β (C.gO β s) w (.mL sz j n) v)
 {ad:Option Addr} {c m:Nat} {ys:List D} {news:List Value} (hln:news.length=m*sz) (hln1:∀v∈news,one v=true)
 (hnews:news=[]\/∃b o,ad=some ⟨b,o,none⟩/\jW (C.gO β s) w b o news)
 (hys:D.iK (C.gO β s) w ys news) (hbd:(n+m)*by'<=2^47):
 ∃v' w' β',(Builtin.append_ #[t,u] ty #[v,.slice ad m c]).run P w=.ok v' w'/\
  St C β' env (sset s j (.lO e sz (n+m) (cs++ys))) a w'/\AV.ok β' (C.gO β' (sset s j (.lO e sz (n+m) (cs++ys)))) w' (.mL sz j (n+m)) v':=by
 obtain⟨hbj,hcl,hg⟩:=OS hst hsj hx;rcases hg with⟨rfl,rfl⟩|⟨g,cap,vs,rfl,hh,h3,h4,h5,h6,pre,rest,h7,h8⟩
 ·have hc0:cs=[]:=bp.1 (by simpa using hcl);subst hc0;by_cases hm:m=0
  ·subst hm;have hn0:news=[]:=bp.1 (by simpa using hln);subst hn0;simp only[D.kM]at hys;have hy0:ys=[]:=bp.1 (by simpa using hys.1.symm);subst hy0;have hsame:∀q,sat (sset s j (.lO e sz (0+0) (([]:List D)++[]))) q=sat s q:=by
    intro q;rw[iE];split
    ·rename_i hq;subst hq;rw[hsj];simp
    ·rfl
   refine⟨_,w,β,B8 (P:=P) (w:=w) t u ty e e2 i ht hu hi ad c,hst.same hsame,?_⟩;simp only[AV.ok]at hx⊢;exact hx
  ·obtain⟨v',w',β',h1,h2,h3⟩:=DF (P:=P) hst (ty:=ty) ht hu hi hz hsz hb hb0 hz1 hz2 (base:=none) (sLen:=0) (sCap:=0) (cs:=[]) (olds:=[]) (by simp) (by simp) (.inl rfl) (by simp[D.iK])
    hln hln1 hnews hys (c:=c) gu hbd (id:=j) (by rw[hbj];exact⟨_,_,rfl,gu,fun h=>by omega⟩)
   exact⟨v',w',β',h1,h2,h3⟩
 ·have hpl:=D.iS h8;by_cases hroom:n+m<=cap
  ·have hfit:n*sz+news.length<=vs.size:=by
    rw[h3,hln,<-bk];exact bG _ hroom
   have hrun:=r_ (P:=P) (w:=w) t u ty e e2 i ht hu hi g n cap vs e hh ad m c news (by rw[hsz];exact hln)
    (hnews.imp (fun x=>x) fun⟨b',o',q1,q2⟩=>⟨b',o',q1,fun j v hj=>(q2 j v hj).1⟩) hln1 hroom (by rw[hsz];exact hfit)
   rw[hsz]at hrun;have htk:vs.toList.take (n*sz)=pre:=by rw[h7];exact uJ _ _ _ (by rw[hpl,hcl])
   have hoks:=tO h8 hys;have hlen:=D.iS hoks;obtain⟨β',h9,h10⟩:=HP hst (n':=n+m) (cs':=cs++ys) (vs':=(vs.toList.take (n*sz)++news++vs.toList.drop (n*sz+news.length)).toArray) (pre:=pre++news) (rest:=vs.toList.drop (n*sz+news.length))
    hsj hbj hh gu
    (by simp only[cz,au,aU,bX,Array.length_toList];omega)
    hroom h5
    (fun v hv=>by
     simp only[aG]at hv;rcases hv with(hv|hv)|hv
     ·exact h6 v (bg hv)
     ·exact hln1 v hv
     ·exact h6 v (bO hv))
    (by rw[au,hcl,<-D.iS hys,hln,bk])
    (by simp only[htk]) hoks
   exact⟨_,_,β',hrun,h9,h10⟩
  ·have hone:∀v∈pre,one v=true:=fun v hv=>h6 v (by rw[h7];exact cu _ hv)
   obtain⟨v',w',β',q1,q2,q3⟩:=DF (P:=P) hst (ty:=ty) ht hu hi hz hsz hb hb0 hz1 hz2 (base:=some ⟨g,0,none⟩) (sLen:=n) (sCap:=cap) (cs:=cs) (olds:=pre) (by rw[hpl,hcl]) hone
    (.inr ⟨g,0,rfl,fun q v hq=>by
     simp only[World.cell?,hh,bR,ah,ay,cy];have hlt:q<pre.length:=(aN.1 hq).1;have:vs.toList[q]?=some v:=by rw[h7,aZ hlt];exact hq
     simpa using this⟩) h8
    hln hln1 hnews hys (c:=c) gu hbd (id:=j) (by rw[hbj];exact⟨_,_,rfl,gu,fun h=>by omega⟩)
   exact⟨v',w',β',q1,q2,q3⟩
end
end oe
