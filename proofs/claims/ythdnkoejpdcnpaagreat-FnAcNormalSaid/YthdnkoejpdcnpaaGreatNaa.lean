/- A part of the proof about FnAcNormal and about FnAcSteps (Al, LaAbs). -/
import Derived.Below
import Derived.CallsIn
import Derived.ControlIn
import Derived.Laws.AppendOwn
import Derived.Laws.Cells
import Derived.Laws.World
import Derived.Maps.OwnSet
import Derived.Orders
import Derived.OrdersIn
import Derived.RangeFuncIn
import Derived.RangeFuncLeaves
import Derived.RangeFuncOwn
import Derived.RangeFuncRecord
set_option linter.all false
noncomputable section
theorem gB{p:Prop}(h:p:=by omega):p:=h
abbrev aa:=@Option.bind_some
abbrev ah:=@if_pos
abbrev ai:=@List.length_cons
abbrev aj:=@List.length_append
abbrev ak:=@decide_eq_true_eq
abbrev aq:=@Int.toNat_natCast
abbrev au:=@Bool.false_eq_true
abbrev av:=@List.getD_eq_getElem?_getD
abbrev ay:=@Nat.le_refl
abbrev az:=@if_neg
abbrev aA:=@List.getElem_mem
abbrev aB:=@List.getElem?_eq_getElem
abbrev aC:=@Option.bind_eq_some_iff
abbrev aF:=@Option.map_eq_some_iff
abbrev aG:=@if_false
abbrev aH:=@if_true
abbrev aI:=@List.mem_append
abbrev aJ:=@Go.Result.andThen_ok
abbrev aK:=@List.drop_eq_getElem_cons
abbrev aL:=@List.append_assoc
abbrev aM:=@List.length_map
abbrev aN:=@List.take_succ_eq_append_getElem
abbrev aO:=@congrArg
abbrev aP:=@List.getElem?_eq_some_iff
abbrev aQ:=@List.map_append
abbrev aR:=@Option.some.injEq
abbrev aS:=@List.flatten_cons
abbrev aT:=@Option.map_some
abbrev aU:=@List.getElem?_append_left
abbrev aV:=@Go.Sem.run_bind
abbrev aW:=@decide_true
abbrev aX:=@List.map_cons
abbrev aY:=@List.length_take
abbrev aZ:=@decide_false
abbrev a_:=@List.mem_map
abbrev bf:=@Go.run_underlying
abbrev bg:=@List.append_nil
abbrev bh:=@List.mem_singleton
abbrev bk:=@Nat.zero_add
abbrev bl:=@Go.Sem.run_pure
abbrev bp:=@List.take_length
abbrev bq:=@List.getElem?_map
abbrev bt:=@List.drop_of_length_le
abbrev bu:=@List.mem_cons
abbrev bw:=@List.nil_append
abbrev bz:=@List.mem_append_left
abbrev bA:=@Array.getElem?_eq_some_iff
abbrev bB:=@List.length_nil
abbrev bC:=@List.getD_cons_zero
abbrev bE:=@List.mem_of_mem_take
abbrev bF:=@Bool.and_eq_true
abbrev bG:=@List.length_singleton
abbrev bH:=@Nat.add_mul
abbrev bI:=@List.getElem?_eq_none
abbrev bJ:=@List.flatMap_cons
abbrev bK:=@List.getElem?_append_right
abbrev bL:=@List.take_append_drop
abbrev bM:=@List.length_pos_iff
abbrev bN:=@Nat.le_trans
abbrev bO:=@List.take_of_length_le
abbrev bP:=@List.drop_zero
abbrev bQ:=@List.mem_of_getElem?
abbrev bR:=@List.length_drop
abbrev bS:=@decide_eq_false_iff_not
abbrev bT:=@and_self
abbrev bU:=@List.flatten_append
abbrev bV:=@Bool.true_and
abbrev bW:=@List.flatten_nil
abbrev bX:=@List.getElem?_take
abbrev bY:=@List.length_eq_zero_iff
abbrev bZ:=@List.eq_nil_of_length_eq_zero
abbrev b_:=@List.map_congr_left
abbrev cc:=@List.mem_flatten
abbrev cg:=@List.cons_append
abbrev ck:=@List.drop_left
abbrev cm:=@List.singleton_append
abbrev cn:=@List.getElem_of_mem
abbrev cp:=@Array.getD_eq_getD_getElem?
abbrev cq:=@Nat.mul_le_mul_right
abbrev cr:=@List.replicate_succ
abbrev ct:=@of_decide_eq_true
abbrev cu:=@List.length_range
abbrev cw:=@List.take_append_of_le_length
abbrev cz:=@List.drop_append_of_le_length
abbrev cA:=@Go.Value.slice.injEq
abbrev cB:=@Nat.lt_or_ge
abbrev cC:=@Array.ext'
abbrev cE:=@Option.isSome_none
abbrev cF:=@List.getElem?_drop
abbrev cG:=@List.not_mem_nil
abbrev cH:=@List.all_eq_true
abbrev cI:=@List.mem_of_mem_drop
abbrev cK:=@List.getElem?_of_mem
abbrev cL:=@Nat.le_mul_of_pos_right
abbrev cM:=@Iff.rfl
abbrev cN:=@beq_iff_eq
abbrev cO:=@List.getElem?_set
abbrev cQ:=@List.nodup_cons
abbrev cS:=@Array.getElem?_eq_getElem
abbrev cT:=@List.mem_append_right
abbrev cU:=@beq_self_eq_true
abbrev cV:=@Nat.add_assoc
abbrev cW:=@Go.run_program
abbrev cZ:=@List.mapM_cons
abbrev c_:=@Go.heap_alloc_old
abbrev dc:=@List.pairwise_iff_getElem
abbrev de:=@Nat.add_zero
abbrev dg:=@List.map_nil
abbrev dh:=@List.map_map
abbrev di:=@List.size_toArray
abbrev dm:=@List.nodup_append
abbrev dn:=@List.perm_cons_erase
abbrev dr:=@List.mem_cons_of_mem
abbrev dw:=@Go.World.cell?_of_block
abbrev dx:=@Option.bind_eq_bind
abbrev dy:=@List.getElem?_range
abbrev dz:=@decide_eq_decide
abbrev dA:=@List.ext_getElem
abbrev dB:=@Int.le_refl
abbrev dD:=@Go.heap_alloc_new
abbrev dF:=@Go.World.alloc_eq
abbrev dG:=@List.mem_filter
abbrev dH:=@Go.Addr.add_lit
abbrev dI:=@List.take_add_one
abbrev dJ:=@List.ext_getElem?
abbrev dK:=@Array.size_append
abbrev dL:=@Array.getElem?_append_left
abbrev dM:=@List.mem_flatMap
abbrev dN:=@List.perm_append_left_iff
abbrev dO:=@beq_eq_false_iff_ne
abbrev dP:=@List.take_succ_cons
abbrev dQ:=@List.cons.injEq
abbrev dR:=@List.mem_replicate
abbrev dS:=@Nat.zero_le
abbrev dU:=@List.getElem?_replicate
abbrev dV:=@List.set_eq_take_append_cons_drop
abbrev dW:=@bne_self_eq_false
abbrev dX:=@List.eraseIdx_eq_take_drop_succ
abbrev dY:=@List.perm_append_comm
abbrev dZ:=@Array.getElem?_modify
abbrev d_:=@Nat.testBit_zero
abbrev ec:=@List.filter_cons
abbrev ee:=@List.drop_subset
abbrev ei:=@Array.toList_map
abbrev ej:=@Go.run_newObj
abbrev ek:=@decide_eq_false
abbrev en:=@Option.some.inj
abbrev eo:=@List.length_set
abbrev er:=@List.getD_cons_succ
abbrev eu:=@getElem!_pos
abbrev ew:=@Nat.zero_mul
abbrev ey:=@Int.le_of_lt
abbrev ez:=@Nat.mul_le_mul
abbrev eA:=@Nat.lt_of_lt_of_le
abbrev eB:=@List.map_singleton
abbrev eC:=@List.mem_or_eq_of_mem_set
abbrev eE:=@Go.grownCap_le_maxLen
abbrev eF:=@List.getElem_take
abbrev eG:=@List.drop_sublist
abbrev eH:=@Go.setRow_heap
abbrev eL:=@Go.run_storeCells_at
abbrev eM:=@List.flatMap_nil
abbrev eN:=@List.drop_length
abbrev eO:=@Nat.add_sub_cancel_left
abbrev eP:=@Option.map_none
abbrev eR:=@Bool.or_eq_true
abbrev eS:=@List.length_filter_le
abbrev eT:=@List.eraseIdx_sublist
abbrev eU:=@Classical.choose_spec
abbrev eV:=@true_and
abbrev eW:=@or_false
abbrev eX:=@Nat.mul_one
abbrev eY:=@List.take_zero
abbrev eZ:=@List.take_left
abbrev e_:=@List.perm_cons
abbrev fc:=@List.mem_range
abbrev fe:=@Nat.pow_le_pow_right
abbrev ff:=@List.pairwise_append
abbrev fh:=@List.getElem?_zipIdx
abbrev fk:=@Go.size_zeroCells
abbrev fo:=@Bool.and_self
abbrev fq:=@Go.wpIn_mono
abbrev fA:=@Nat.eq_zero_or_pos
abbrev fB:=@List.pairwise_cons
abbrev fC:=@List.mem_cons_self
abbrev fD:=@Go.grownBy_keeps_cells
abbrev fE:=@Go.run_makeSlice
abbrev fF:=@Nat.le_of_eq
abbrev fG:=@List.any_eq_false
abbrev fH:=@Bool.not_eq_true'
abbrev fI:=@List.zipIdx_cons
abbrev fJ:=@List.any_eq_true
abbrev fK:=@Int.natCast_zero
abbrev fL:=@Go.setRow_other
abbrev fM:=@Nat.min_eq_left
abbrev fN:=@List.take_left'
abbrev fO:=@Array.getElem?_setIfInBounds
abbrev fP:=List Int
abbrev fQ:=List fP
abbrev fR:=fP×fP
abbrev fS:=fP×Int×Int
abbrev fT:=Int⊕Bool
abbrev fU:=Nat×Nat
abbrev fV:=Int×Int×fP
abbrev fW:=List fQ
abbrev fZ:=List fR
abbrev f_:=fQ×Int
abbrev ga:=fP×fP×Int×Int
abbrev gh:=fQ×Bool
abbrev gi:=fP×Int×Int×Int
abbrev gj:=fP×fZ
abbrev gm:=Int×Int×Int×fZ
abbrev gn:=fW×Int
abbrev gp:=fP×Int
abbrev gq:=Int×fQ
abbrev gr:=Int×Int
abbrev gu:=gj×fP×fP×Int×Int
abbrev gv:=List Nat
abbrev gw:=Bool×Int×Int
abbrev gx:=fP×Bool
abbrev gy:=Int×Int×Int×fP
abbrev gz:=Int⊕fS
abbrev gA:=fQ×fQ×Int
namespace kI
open Go
inductive D where
 |any
 |lit (v:Value)
 |sl (e:Nat) (nl:Option Bool) (xs:List D)
 |agg (cs:List D)
 deriving Inhabited
abbrev Own:=Nat->Nat->Prop
def one:Value->Bool
 |.agg _=>false
 |.tuple _=>false
 |_=>true
def kN(O:Own)(w:World)(b o:Nat)(vs:List Value):Prop:=
 ∀j v,vs[j]?=some v->w.cell? ⟨b,o+j,none⟩=some v/\¬O b (o+j)/\one v=true
def JH(n cap:Nat):Prop:=n<=cap/\cap<2^63
def KL(nl:Option Bool)(a:Option Addr)(cap:Nat):Prop:=
 match nl with
 |none=>True
 |some true=>a=none/\cap=0
 |some false=>a≠none
mutual
def D.ok(O:Own)(w:World):D->Value->Prop
 |.any,v=>one v=true
 |.lit u,v=>v=u/\one u=true
 |.agg cs,v=>∃vs:Array Value,v=.agg vs/\D.hM O w cs vs.toList
 |.sl e nl xs,v=>∃a cap,v=.slice a xs.length cap/\JH xs.length cap/\KL nl a cap/\
  (xs=[]\/∃b o,a=some ⟨b,o,none⟩/\D.row O w b o e xs)
def D.hM(O:Own)(w:World):List D->List Value->Prop
 |[],vs=>vs=[]
 |c::cs,vs=>∃v r,vs=v::r/\one v=true/\D.ok O w c v/\D.hM O w cs r
def D.row(O:Own)(w:World)(b o e:Nat):List D->Prop
 |[]=>True
 |.agg cs::xs=>(∃vs,vs.length=e/\kN O w b o vs/\D.hM O w cs vs)/\D.row O w b (o+e) e xs
 |x::xs=>(∃v,e=1/\kN O w b o [v]/\D.ok O w x v)/\D.row O w b (o+e) e xs
end
def D.Fj(O:Own)(w:World)(x:D)(vs:List Value):Prop:=
 match x with
 |.agg cs=>D.hM O w cs vs
 |x=>∃v,vs=[v]/\D.ok O w x v
theorem D.ni{O:Own}{w:World}{b o e:Nat}{x:D}{xs:List D}:D.row O w b o e (x::xs)<->
 (∃vs,vs.length=e/\kN O w b o vs/\D.Fj O w x vs)/\D.row O w b (o+e) e xs:=by
 cases x with
 |agg cs=>simp only[D.row,D.Fj]
 |any=>
  simp only[D.row,D.Fj];refine and_congr_left fun _=>⟨?_,?_⟩
  ·rintro⟨v,rfl,h1,h2⟩;exact⟨[v],rfl,h1,v,rfl,h2⟩
  ·rintro⟨vs,rfl,h1,v,rfl,h2⟩;exact⟨v,rfl,h1,h2⟩
 |lit u=>
  simp only[D.row,D.Fj];refine and_congr_left fun _=>⟨?_,?_⟩
  ·rintro⟨v,rfl,h1,h2⟩;exact⟨[v],rfl,h1,v,rfl,h2⟩
  ·rintro⟨vs,rfl,h1,v,rfl,h2⟩;exact⟨v,rfl,h1,h2⟩
 |sl e' nl ys=>
  simp only[D.row,D.Fj];refine and_congr_left fun _=>⟨?_,?_⟩
  ·rintro⟨v,rfl,h1,h2⟩;exact⟨[v],rfl,h1,v,rfl,h2⟩
  ·rintro⟨vs,rfl,h1,v,rfl,h2⟩;exact⟨v,rfl,h1,h2⟩
theorem kN.mono{O O':Own}{w w':World}{b o:Nat}{vs:List Value}
 (h:∀b o v,w.cell? ⟨b,o,none⟩=some v->¬O b o->w'.cell? ⟨b,o,none⟩=some v/\¬O' b o)
 (hc:kN O w b o vs):kN O' w' b o vs:=fun j v hj=>
 have h1:=h _ _ _ (hc j v hj).1 (hc j v hj).2.1;⟨h1.1,h1.2,(hc j v hj).2.2⟩
mutual
theorem D.kL{O O':Own}{w w':World}
 (h:∀b o v,w.cell? ⟨b,o,none⟩=some v->¬O b o->w'.cell? ⟨b,o,none⟩=some v/\¬O' b o):
 ∀(x:D)(v:Value),D.ok O w x v->D.ok O' w' x v
 |.any,v=>fun hx=>by simpa[D.ok]using hx
 |.lit u,v=>fun hx=>by simpa[D.ok]using hx
 |.agg cs,v=>fun hx=>by
  simp only[D.ok]at hx⊢;obtain⟨vs,h1,h2⟩:=hx;exact⟨vs,h1,D.jI h cs _ h2⟩
 |.sl e nl xs,v=>fun hx=>by
  simp only[D.ok]at hx⊢;obtain⟨a,cap,h1,h2,h3,h4⟩:=hx;refine⟨a,cap,h1,h2,h3,?_⟩;rcases h4 with h4|⟨b,o,h4,h5⟩
  ·exact .inl h4
  ·exact .inr ⟨b,o,h4,D.xJ h b o e xs h5⟩
theorem D.jI{O O':Own}{w w':World}
 (h:∀b o v,w.cell? ⟨b,o,none⟩=some v->¬O b o->w'.cell? ⟨b,o,none⟩=some v/\¬O' b o):
 ∀(cs:List D)(vs:List Value),D.hM O w cs vs->D.hM O' w' cs vs
 |[],vs=>fun hx=>by simpa[D.hM]using hx
 |c::cs,vs=>fun hx=>by
  simp only[D.hM]at hx⊢;obtain⟨v,r,h1,h0,h2,h3⟩:=hx;exact⟨v,r,h1,h0,D.kL h c _ h2,D.jI h cs r h3⟩
theorem D.xJ{O O':Own}{w w':World}
 (h:∀b o v,w.cell? ⟨b,o,none⟩=some v->¬O b o->w'.cell? ⟨b,o,none⟩=some v/\¬O' b o):
 ∀(b o e:Nat)(xs:List D),D.row O w b o e xs->D.row O' w' b o e xs
 |_,_,_,[]=>fun _=>by simp[D.row]
 |b,o,e,.agg cs::xs=>fun hx=>by
  simp only[D.row]at hx⊢;obtain⟨⟨vs,h1,h2,h3⟩,h4⟩:=hx;exact⟨⟨vs,h1,h2.mono h,D.jI h cs vs h3⟩,D.xJ h b (o+e) e xs h4⟩
 |b,o,e,.any::xs=>fun hx=>by
  simp only[D.row]at hx⊢;obtain⟨⟨v,h1,h2,h3⟩,h4⟩:=hx;exact⟨⟨v,h1,h2.mono h,D.kL h .any v h3⟩,D.xJ h b (o+e) e xs h4⟩
 |b,o,e,.lit u::xs=>fun hx=>by
  simp only[D.row]at hx⊢;obtain⟨⟨v,h1,h2,h3⟩,h4⟩:=hx;exact⟨⟨v,h1,h2.mono h,D.kL h (.lit u) v h3⟩,D.xJ h b (o+e) e xs h4⟩
 |b,o,e,.sl e' nl ys::xs=>fun hx=>by
  simp only[D.row]at hx⊢;obtain⟨⟨v,h1,h2,h3⟩,h4⟩:=hx;exact⟨⟨v,h1,h2.mono h,D.kL h (.sl e' nl ys) v h3⟩,D.xJ h b (o+e) e xs h4⟩
end
inductive AV where
 |iB
 |d (x:D)
 |own (e id:Nat) (xs:List D)
 |ptr (id off:Nat)
 |nC (e id off len:Nat)
 |pv (cs:List D)
 |pa (cs:List AV)
 |agg (cs:List AV)
 |nk (cs:List AV)
 |fn (f:Nat) (first cap:List AV)
 |kG (e id n:Nat)
 |lT (id k off:Nat)
 |BS (e:Nat) (xs:List D)
 |dp (x:D)
 |mp (id:Nat)
 deriving Inhabited
inductive Place where
 |no
 |blk (b:Nat)
 |tok (v:Value) (n:Nat)
 |pI (v:Value) (n:Nat) (bs:List Nat)
def Place.at:Place->Value->Nat->Prop
 |.tok u n,v,m=>u=v/\n=m
 |.pI u n _,v,m=>u=v/\n=m
 |_,_,_=>False
abbrev gU:=Nat->Place
inductive Ob where
 |dead
 |obj (t:Nat) (cs:List AV)
 |tok (t e n:Nat)
 |iM (t e n:Nat) (cs:List D)
 |pI (t e n:Nat) (cs:List AV)
 |vf (e n:Nat) (cs:List AV)
 |mp (P:Program) (k:Nat) (es:List (Lit×D))
 deriving Inhabited
abbrev gL:=List (Nat×Ob)
def sat:gL->Nat->Ob
 |[],_=>.dead
 |(j,x)::r,i=>if i=j then x else sat r i
def sset:gL->Nat->Ob->gL
 |[],i,ob=>[(i,ob)]
 |(j,x)::r,i,ob=>if i=j then(i,ob)::r else if i<j then(i,ob)::(j,x)::r else(j,x)::sset r i ob
theorem jg(s:gL)(i j:Nat)(ob:Ob):sat (sset s i ob) j=if j=i then ob else sat s j:=by
 induction s with
 |nil=>simp[sset,sat]
 |cons p r ih=>
  obtain⟨q,x⟩:=p;simp only[sset];split
  ·rename_i h;subst h;simp only[sat];split<;>simp_all
  ·split
   ·simp only[sat]
   ·simp only[sat,ih];repeat' split
    all_goals simp_all
mutual
def AV.ok(β:gU)(O:Own)(w:World):AV->Value->Prop
 |.iB,_=>True
 |.d x,v=>D.ok O w x v
 |.own e id xs,v=>D.ok O w (.sl e none xs) v/\∃u n,(β id).at u n/\xs.length<=n/\(xs.length=n->v=u)
 |.ptr id off,v=>∃b,β id=.blk b/\v=.pointer (some ⟨b,off,none⟩)
 |.nC _ id off len,v=>∃b cap,β id=.blk b/\(len<=cap/\cap<2^63)/\v=.slice (some ⟨b,off,none⟩) len cap
 |.pv cs,v=>∃b o vs,v=.pointer (some ⟨b,o,none⟩)/\kN O w b o vs/\D.hM O w cs vs
 |.pa cs,v=>∃b o vs,v=.pointer (some ⟨b,o,none⟩)/\kN O w b o vs/\AV.hM β O w cs vs
 |.agg cs,v=>∃vs:Array Value,v=.agg vs/\(∀u∈vs.toList,one u=true)/\AV.hM β O w cs vs.toList
 |.nk cs,v=>∃vs:Array Value,v=.tuple vs/\AV.hM β O w cs vs.toList
 |.fn f first cap,v=>∃fs cs:Array Value,v=.func (.func f) fs cs/\AV.hM β O w first fs.toList/\AV.hM β O w cap cs.toList
 |.kG _ id n,v=>∃u m,(β id).at u m/\n<=m/\(n=m->v=u)/\((∃a,v=.slice a 0 0/\n=0)\/∃b cap,v=.slice (some ⟨b,0,none⟩) n cap/\n<=cap/\cap<2^63)
 |.lT id k off,v=>∃u m b off',(β id).at u m/\k<=m/\v=.pointer (some ⟨b,off',none⟩)/\(m=k->∃cap,u=.slice (some ⟨b,0,none⟩) m cap/\off'=off)
 |.BS e xs,v=>∃a,v=.slice a xs.length xs.length/\D.ok O w (.sl e none xs) v
 |.dp _,_=>True
 |.mp id,v=>∃b,β id=.blk b/\v=.map (some b)
def AV.hM(β:gU)(O:Own)(w:World):List AV->List Value->Prop
 |[],vs=>vs=[]
 |x::xs,vs=>∃v r,vs=v::r/\AV.ok β O w x v/\AV.hM β O w xs r
end
def mM:Place->Place->Prop
 |.no,_=>True
 |.blk b,p=>p=.blk b
 |.tok u n,p=>∃u' n',p=.tok u' n'/\n<=n'/\(n=n'->u'=u)
 |.pI u n _,p=>∃u' n' bs',p=.pI u' n' bs'/\n<=n'/\(n=n'->u'=u)
theorem mM.refl(p:Place):mM p p:=by
 cases p with
 |no=>trivial
 |blk b=>rfl
 |tok u n=>exact⟨u,n,rfl,ay _,fun _=>rfl⟩
 |pI u n bs=>exact⟨u,n,bs,rfl,ay _,fun _=>rfl⟩
theorem mM.trans{p q r:Place}(h:mM p q)(k:mM q r):mM p r:=by
 cases p with
 |no=>trivial
 |blk b=>cases h;cases k;rfl
 |tok u n=>
  obtain⟨u',n',rfl,h1,h2⟩:=h;obtain⟨u'',n'',rfl,k1,k2⟩:=k;refine⟨u'',n'',rfl,gB,fun e=>?_⟩;rw[k2 gB,h2 gB]
 |pI u n bs=>
  obtain⟨u',n',b1,rfl,h1,h2⟩:=h;obtain⟨u'',n'',b2,rfl,k1,k2⟩:=k;refine⟨u'',n'',b2,rfl,gB,fun e=>?_⟩;rw[k2 gB,h2 gB]
theorem mM.at{p q:Place}(h:mM p q){u:Value}{n:Nat}(hp:p.at u n):∃u' n',q.at u' n'/\n<=n'/\(n=n'->u'=u):=by
 cases p with
 |no=>exact hp.elim
 |blk b=>exact hp.elim
 |tok u0 n0=>
  obtain⟨rfl,rfl⟩:=hp;obtain⟨u',n',rfl,h1,h2⟩:=h;exact⟨u',n',⟨rfl,rfl⟩,h1,h2⟩
 |pI u0 n0 bs=>
  obtain⟨rfl,rfl⟩:=hp;obtain⟨u',n',b1,rfl,h1,h2⟩:=h;exact⟨u',n',⟨rfl,rfl⟩,h1,h2⟩
mutual
theorem AV.kL{β β':gU}{O O':Own}{w w':World}
 (h:∀b o v,w.cell? ⟨b,o,none⟩=some v->¬O b o->w'.cell? ⟨b,o,none⟩=some v/\¬O' b o)
 (hb:∀id,mM (β id) (β' id)):∀(x:AV)(v:Value),AV.ok β O w x v->AV.ok β' O' w' x v
 |.iB,v=>fun _=>by simp[AV.ok]
 |.d x,v=>fun hx=>by
  simp only[AV.ok]at hx⊢;exact D.kL h x v hx
 |.own e id xs,v=>fun hx=>by
  simp only[AV.ok]at hx⊢;obtain⟨h1,u,n,h2,h3,h4⟩:=hx;obtain⟨u',n',h5,h6,h7⟩:=(hb id).at h2;exact⟨D.kL h _ _ h1,u',n',h5,gB,fun e=>by rw[h7 gB];exact h4 gB⟩
 |.ptr id off,v=>fun hx=>by
  simp only[AV.ok]at hx⊢;obtain⟨b,h1,h2⟩:=hx;have hp:=hb id;rw[h1]at hp;exact⟨b,hp,h2⟩
 |.nC e id off len,v=>fun hx=>by
  simp only[AV.ok]at hx⊢;obtain⟨b,cap,h1,h2⟩:=hx;have hp:=hb id;rw[h1]at hp;exact⟨b,cap,hp,h2⟩
 |.pv cs,v=>fun hx=>by
  simp only[AV.ok]at hx⊢;obtain⟨b,o,vs,h1,h2,h3⟩:=hx;exact⟨b,o,vs,h1,h2.mono h,D.jI h _ _ h3⟩
 |.pa cs,v=>fun hx=>by
  simp only[AV.ok]at hx⊢;obtain⟨b,o,vs,h1,h2,h3⟩:=hx;exact⟨b,o,vs,h1,h2.mono h,AV.jI h hb cs _ h3⟩
 |.agg cs,v=>fun hx=>by
  simp only[AV.ok]at hx⊢;obtain⟨vs,h1,h0,h2⟩:=hx;exact⟨vs,h1,h0,AV.jI h hb cs _ h2⟩
 |.nk cs,v=>fun hx=>by
  simp only[AV.ok]at hx⊢;obtain⟨vs,h1,h2⟩:=hx;exact⟨vs,h1,AV.jI h hb cs _ h2⟩
 |.fn f first cap,v=>fun hx=>by
  simp only[AV.ok]at hx⊢;obtain⟨fs,cs,h1,h2,h3⟩:=hx;exact⟨fs,cs,h1,AV.jI h hb first _ h2,AV.jI h hb cap _ h3⟩
 |.kG e id n,v=>fun hx=>by
  simp only[AV.ok]at hx⊢;obtain⟨u,m,h1,h2,h3,h4⟩:=hx;obtain⟨u',m',h5,h6,h7⟩:=(hb id).at h1;exact⟨u',m',h5,gB,fun e=>by rw[h7 gB];exact h3 gB,h4⟩
 |.lT id k off,v=>fun hx=>by
  simp only[AV.ok]at hx⊢;obtain⟨u,m,b,off',h1,h2,h0,h3⟩:=hx;obtain⟨u',m',h5,h6,h7⟩:=(hb id).at h1;refine⟨u',m',b,off',h5,gB,h0,fun e=>?_⟩;have hm:m=m':=by omega
  subst hm;rw[h7 rfl];exact h3 e
 |.BS e xs,v=>fun hx=>by
  simp only[AV.ok]at hx⊢;obtain⟨a,h1,h2⟩:=hx;exact⟨a,h1,D.kL h _ v h2⟩
 |.dp x,v=>fun _=>by simp[AV.ok]
 |.mp id,v=>fun hx=>by
  simp only[AV.ok]at hx⊢;obtain⟨b,h1,h2⟩:=hx;have hp:=hb id;rw[h1]at hp;exact⟨b,hp,h2⟩
theorem AV.jI{β β':gU}{O O':Own}{w w':World}
 (h:∀b o v,w.cell? ⟨b,o,none⟩=some v->¬O b o->w'.cell? ⟨b,o,none⟩=some v/\¬O' b o)
 (hb:∀id,mM (β id) (β' id)):∀(xs:List AV)(vs:List Value),AV.hM β O w xs vs->AV.hM β' O' w' xs vs
 |[],vs=>fun hx=>by simpa[AV.hM]using hx
 |x::xs,vs=>fun hx=>by
  simp only[AV.hM]at hx⊢;obtain⟨v,r,h1,h2,h3⟩:=hx;exact⟨v,r,h1,AV.kL h hb x v h2,AV.jI h hb xs r h3⟩
end
mutual
def AV.kY(ρ:Nat->Option Nat):AV->AV
 |.iB=>.iB
 |.d x=>.d x
 |.own e id xs=>match ρ id with|some j=>.own e j xs|none=>.d (.sl e none xs)
 |.ptr id off=>match ρ id with|some j=>.ptr j off|none=>.iB
 |.nC e id off len=>match ρ id with|some j=>.nC e j off len|none=>.iB
 |.pv cs=>.pv cs
 |.pa cs=>.pa (AV.iI ρ cs)
 |.agg cs=>.agg (AV.iI ρ cs)
 |.nk cs=>.nk (AV.iI ρ cs)
 |.fn f a b=>.fn f (AV.iI ρ a) (AV.iI ρ b)
 |.kG e id n=>match ρ id with|some j=>.kG e j n|none=>.iB
 |.lT id k off=>match ρ id with|some j=>.lT j k off|none=>.iB
 |.BS e xs=>.BS e xs
 |.dp x=>.dp x
 |.mp id=>match ρ id with|some j=>.mp j|none=>.iB
def AV.iI(ρ:Nat->Option Nat):List AV->List AV
 |[]=>[]
 |x::xs=>AV.kY ρ x::AV.iI ρ xs
end
mutual
theorem AV.xd{β β':gU}{O:Own}{w:World}{ρ:Nat->Option Nat}(hr:∀i j,ρ i=some j->β' j=β i):
 ∀(x:AV)(v:Value),AV.ok β O w x v->AV.ok β' O w (x.kY ρ) v
 |.iB,v=>fun _=>by simp[AV.kY,AV.ok]
 |.d x,v=>fun hx=>by simpa[AV.kY,AV.ok]using hx
 |.own e id xs,v=>fun hx=>by
  simp only[AV.ok,AV.kY]at hx⊢;cases hq:ρ id with
  |none=>exact hx.1
  |some j=>simp only[AV.ok];rw[hr _ _ hq];exact hx
 |.ptr id off,v=>fun hx=>by
  simp only[AV.ok,AV.kY]at hx⊢;cases hq:ρ id with
  |none=>simp[AV.ok]
  |some j=>simp only[AV.ok];rw[hr _ _ hq];exact hx
 |.nC e id off len,v=>fun hx=>by
  simp only[AV.ok,AV.kY]at hx⊢;cases hq:ρ id with
  |none=>simp[AV.ok]
  |some j=>simp only[AV.ok];rw[hr _ _ hq];exact hx
 |.pv cs,v=>fun hx=>by simpa[AV.kY,AV.ok]using hx
 |.pa cs,v=>fun hx=>by
  simp only[AV.ok,AV.kY]at hx⊢;obtain⟨b,o,vs,h1,h2,h3⟩:=hx;exact⟨b,o,vs,h1,h2,AV.vL hr cs _ h3⟩
 |.agg cs,v=>fun hx=>by
  simp only[AV.ok,AV.kY]at hx⊢;obtain⟨vs,h1,h0,h2⟩:=hx;exact⟨vs,h1,h0,AV.vL hr cs _ h2⟩
 |.nk cs,v=>fun hx=>by
  simp only[AV.ok,AV.kY]at hx⊢;obtain⟨vs,h1,h2⟩:=hx;exact⟨vs,h1,AV.vL hr cs _ h2⟩
 |.fn f a b,v=>fun hx=>by
  simp only[AV.ok,AV.kY]at hx⊢;obtain⟨fs,cs,h1,h2,h3⟩:=hx;exact⟨fs,cs,h1,AV.vL hr a _ h2,AV.vL hr b _ h3⟩
 |.kG e id n,v=>fun hx=>by
  simp only[AV.ok,AV.kY]at hx⊢;cases hq:ρ id with
  |none=>simp[AV.ok]
  |some j=>simp only[AV.ok];rw[hr _ _ hq];exact hx
 |.lT id k off,v=>fun hx=>by
  simp only[AV.ok,AV.kY]at hx⊢;cases hq:ρ id with
  |none=>simp[AV.ok]
  |some j=>simp only[AV.ok];rw[hr _ _ hq];exact hx
 |.BS e xs,v=>fun hx=>by
  simp only[AV.ok,AV.kY]at hx⊢;exact hx
 |.dp x,v=>fun _=>by simp[AV.kY,AV.ok]
 |.mp id,v=>fun hx=>by
  simp only[AV.ok,AV.kY]at hx⊢;cases hq:ρ id with
  |none=>simp[AV.ok]
  |some j=>simp only[AV.ok];rw[hr _ _ hq];exact hx
theorem AV.vL{β β':gU}{O:Own}{w:World}{ρ:Nat->Option Nat}(hr:∀i j,ρ i=some j->β' j=β i):
 ∀(xs:List AV)(vs:List Value),AV.hM β O w xs vs->AV.hM β' O w (AV.iI ρ xs) vs
 |[],vs=>fun hx=>by simpa[AV.iI,AV.hM]using hx
 |x::xs,vs=>fun hx=>by
  simp only[AV.hM,AV.iI]at hx⊢;obtain⟨v,r,h1,h2,h3⟩:=hx;exact⟨v,r,h1,AV.xd hr x v h2,AV.vL hr xs r h3⟩
end
def AV.cells:AV->Option (List AV)
 |.d (.agg cs)=>some (cs.map .d)
 |.agg cs=>some cs
 |.iB=>none
 |.nk _=>none
 |.dp _=>none
 |x=>some [x]
def AV.rI:List AV->Option (List D)
 |[]=>some []
 |.d x::xs=>(AV.rI xs).map (x::·)
 |_::_=>none
def AV.mk(cs:List AV):AV:=
 match AV.rI cs with
 |some ds=>.d (.agg ds)
 |none=>.agg cs
def own(β:gU)(s:gL)(b o:Nat):Prop:=
 ∃id,match sat s id with
  |.dead=>False
  |.obj _ _=>β id=.blk b
  |.tok _ e n=>∃cap,β id=.tok (.slice (some ⟨b,0,none⟩) n cap) n/\n*e<=o
  |.iM _ _ n _=>∃cap,β id=.tok (.slice (some ⟨b,0,none⟩) n cap) n
  |.pI _ e n _=>∃cap bs,β id=.pI (.slice (some ⟨b,0,none⟩) n cap) n bs/\n*e<=o
  |.vf _ n _=>∃v bs,β id=.pI v n bs/\((∃cap,v=.slice (some ⟨b,0,none⟩) n cap/\0<cap)\/b∈bs)
  |.mp _ _ _=>False
def gF(β:gU)(s:gL)(id b:Nat):Prop:=
 match sat s id with
 |.dead=>False
 |.obj _ _=>β id=.blk b
 |.tok _ _ n=>∃cap,β id=.tok (.slice (some ⟨b,0,none⟩) n cap) n
 |.iM _ _ n _=>∃cap,β id=.tok (.slice (some ⟨b,0,none⟩) n cap) n
 |.pI _ _ n _=>∃v bs,β id=.pI v n bs/\((∃cap,v=.slice (some ⟨b,0,none⟩) n cap)\/b∈bs)
 |.vf _ n _=>∃v bs,β id=.pI v n bs/\((∃cap,v=.slice (some ⟨b,0,none⟩) n cap/\0<cap)\/b∈bs)
 |.mp _ _ _=>β id=.blk b
theorem own.block{β:gU}{s:gL}{b o:Nat}(h:own β s b o):∃id,gF β s id b:=by
 obtain⟨id,h⟩:=h;refine⟨id,?_⟩;unfold gF;cases hs:sat s id with
 |dead=>rw[hs]at h;exact h
 |obj t cs=>rw[hs]at h;exact h
 |tok t e n=>rw[hs]at h;obtain⟨cap,h1,_⟩:=h;exact⟨cap,h1⟩
 |iM t e n cs=>rw[hs]at h;exact h
 |pI t e n cs=>rw[hs]at h;obtain⟨cap,bs,h1,_⟩:=h;exact⟨_,bs,h1,.inl ⟨cap,rfl⟩⟩
 |vf e n cs=>rw[hs]at h;exact h
 |mp P k es=>rw[hs]at h;exact h.elim
def VR(w:World)(t e n:Nat)(u:Value):Prop:=
 (u=.slice none 0 0/\n=0)\/∃b cap vs,u=.slice (some ⟨b,0,none⟩) n cap/\w.heap[b]?=some (.cells vs t (0,0))/\
  vs.size=cap*e/\n<=cap/\cap<2^63/\∀v∈vs.toList,one v=true
def RW(O:Own)(w:World)(t e n:Nat)(u:Value)(cs:List D):Prop:=
 (u=.slice none 0 0/\n=0)\/∃b cap vs,u=.slice (some ⟨b,0,none⟩) n cap/\w.heap[b]?=some (.cells vs t (0,0))/\
  vs.size=cap*e/\n<=cap/\cap<2^63/\(∀v∈vs.toList,one v=true)/\∃pre rest,vs.toList=pre++rest/\D.hM O w cs pre
def H9(β:gU)(O:Own)(w:World)(cs:List AV)(vs:List Value):Prop:=∃pre rest,vs=pre++rest/\AV.hM β O w cs pre
theorem H9.of{β:gU}{O:Own}{w:World}{cs:List AV}{vs:List Value}(h:AV.hM β O w cs vs):H9 β O w cs vs:=⟨vs,[],by simp,h⟩
theorem H9.imp{β β':gU}{O O':Own}{w w':World}{cs cs':List AV}{vs:List Value}(h:H9 β O w cs vs)(f:∀vs,AV.hM β O w cs vs->AV.hM β' O' w' cs' vs):H9 β' O' w' cs' vs:=
 let⟨pre,rest,h1,h2⟩:=h;⟨pre,rest,h1,f _ h2⟩
mutual
def NV(w:World):D->Value->List Nat->Prop
 |.any,_,_=>False
 |.agg _,_,_=>False
 |.lit u,v,bs=>v=u/\one u=true/\bs=[]
 |.sl e nl xs,v,bs=>∃a cap,v=.slice a xs.length cap/\JH xs.length cap/\KL nl a cap/\
  ((cap=0/\xs=[]/\bs=[])\/∃b vs t bs',a=some ⟨b,0,none⟩/\bs=b::bs'/\w.heap[b]?=some (.cells vs t (0,0))/\vs.size=cap*e/\
   (∀v∈vs.toList,one v=true)/\NR w e xs vs.toList bs')
def NC(w:World):List D->List Value->List Nat->Prop
 |[],vs,bs=>vs=[]/\bs=[]
 |c::cs,vs,bs=>∃v r b1 b2,vs=v::r/\bs=b1++b2/\NV w c v b1/\NC w cs r b2
def NR(w:World)(e:Nat):List D->List Value->List Nat->Prop
 |[],_,bs=>bs=[]
 |.agg cs::xs,vs,bs=>∃us r b1 b2,vs=us++r/\us.length=e/\bs=b1++b2/\NC w cs us b1/\NR w e xs r b2
 |x::xs,vs,bs=>∃v r b1 b2,vs=v::r/\e=1/\bs=b1++b2/\NV w x v b1/\NR w e xs r b2
end
def NX(β:gU)(O:Own)(w:World):AV->Value->List Nat->Prop
 |.dp d,v,bs=>NV w d v bs
 |x,v,bs=>AV.ok β O w x v/\bs=[]
def vp(β:gU)(O:Own)(w:World):List AV->List Value->List Nat->Prop
 |[],_,bs=>bs=[]
 |x::xs,vs,bs=>∃v r b1 b2,vs=v::r/\bs=b1++b2/\NX β O w x v b1/\vp β O w xs r b2
def Ge(β:gU)(O:Own)(w:World)(t e n:Nat)(u:Value)(bs:List Nat)(cs:List AV):Prop:=
 cs.length=n*e/\((u=.slice none 0 0/\n=0/\bs=[])\/∃b cap vs,u=.slice (some ⟨b,0,none⟩) n cap/\w.heap[b]?=some (.cells vs t (0,0))/\
  vs.size=cap*e/\n<=cap/\cap<2^63/\(∀v∈vs.toList,one v=true)/\(b::bs).Nodup/\vp β O w cs vs.toList bs)
def Gf(β:gU)(O:Own)(w:World)(e n:Nat)(u:Value)(bs:List Nat)(cs:List AV):Prop:=
 cs.length=n*e/\(((∃a,u=.slice a 0 0)/\n=0/\bs=[])\/∃b cap vs t,u=.slice (some ⟨b,0,none⟩) n cap/\w.heap[b]?=some (.cells vs t (0,0))/\
  vs.size=cap*e/\n<=cap/\cap<2^63/\(∀v∈vs.toList,one v=true)/\0<cap/\(b::bs).Nodup/\vp β O w cs vs.toList bs)
def Sd(v:Value):Option (DataW Value×List MemPlace):=some (.held v,[])
noncomputable instance ZU:DecidableEq Lit:=fun a b=>Classical.propDecidable (a=b)
def yB{α:Type}:List (Lit×α)->Lit->Option α
 |[],_=>none
 |(k,x)::r,kl=>if k=kl then some x else yB r kl
def UR{α:Type}(kl:Lit)(es:List (Lit×α)):List (Lit×α):=es.filter fun p=>!decide (p.1=kl)
theorem Lz{α:Type}{kl l:Lit}:∀{es:List (Lit×α)},yB (UR kl es) l=if l=kl then none else yB es l
 |[]=>by simp[UR,yB]
 |(k,x)::r=>by
  have ih:=Lz (kl:=kl) (l:=l) (es:=r);unfold UR at ih⊢;rw[ec];by_cases hk:k=kl
  ·subst hk;simp only[aW,Bool.not_true,au,aG,ih,yB];by_cases hl:l=k
   ·simp[hl]
   ·have:k≠l:=fun e=>hl e.symm
    simp[hl,this]
  ·simp only[hk,aZ,Bool.not_false,aH,yB,ih];by_cases hl:k=l
   ·subst hl;simp[hk]
   ·simp[hl]
theorem Hl{α:Type}{kl:Lit}{x:α}:∀{es:List (Lit×α)},yB es kl=some x->kl∈es.map (·.1)
 |[],h=>by simp[yB]at h
 |(k,y)::r,h=>by
  unfold yB at h;split at h
  ·rename_i e;simp[e]
  ·simp[Hl h]
def AG(O:Own)(w:World)(P:Program)(k:Nat)(es:List (Lit×D))(b:Nat):Prop:=
 ∃E:DataW Value,w.ownsMap P k Sd b (Maps.size E) E/\∀kl,match yB es kl with
  |none=>Maps.has E kl=false
  |some x=>∃v,(∀z,E.atKey kl z=.held v)/\one v=true/\D.ok O w x v
theorem AG.block{O:Own}{w:World}{P:Program}{k:Nat}{es:List (Lit×D)}{b:Nat}(h:AG O w P k es b):∃xs c,w.heap[b]?=some (.map xs c):=
 let⟨_,⟨xs,c,h1,_⟩,_⟩:=h;⟨xs,c,h1⟩
theorem AG.imp{O O':Own}{w w':World}{P:Program}{k:Nat}{es:List (Lit×D)}{b:Nat}(hb:w'.heap[b]?=w.heap[b]?)(hd:∀x v,D.ok O w x v->D.ok O' w' x v)
 (h:AG O w P k es b):AG O' w' P k es b:=by
 obtain⟨E,⟨xs,c,h1,h2⟩,h3⟩:=h;refine⟨E,⟨xs,c,by rw[hb,h1],h2⟩,fun kl=>?_⟩;have:=h3 kl;cases hm:yB es kl with
 |none=>rw[hm]at this;exact this
 |some x=>rw[hm]at this;obtain⟨v,k1,k2,k3⟩:=this;exact⟨v,k1,k2,hd _ _ k3⟩
def vG(β:gU)(O:Own)(w:World)(id:Nat):Ob->Prop
 |.dead=>β id=.no
 |.obj t cs=>∃b vs,β id=.blk b/\w.heap[b]?=some (.cells vs t (0,0))/\(∀v∈vs.toList,one v=true)/\H9 β O w cs vs.toList
 |.tok t e n=>∃u,β id=.tok u n/\VR w t e n u
 |.iM t e n cs=>∃u,β id=.tok u n/\cs.length=n*e/\RW O w t e n u cs
 |.pI t e n cs=>∃u bs,β id=.pI u n bs/\(∀b∈bs,∃vs t',w.heap[b]?=some (.cells vs t' (0,0)))/\Ge β O w t e n u bs cs
 |.vf e n cs=>∃u bs,β id=.pI u n bs/\(∀b∈bs,∃vs t',w.heap[b]?=some (.cells vs t' (0,0)))/\Gf β O w e n u bs cs
 |.mp P k es=>∃b,β id=.blk b/\AG O w P k es b
mutual
theorem NV.congr{w w':World}:∀{x:D}{v:Value}{bs:List Nat},(∀b∈bs,w'.heap[b]?=w.heap[b]?)->NV w x v bs->NV w' x v bs
 |.any,_,_=>fun _ h=>h.elim
 |.agg _,_,_=>fun _ h=>h.elim
 |.lit u,_,_=>fun _ h=>h
 |.sl e nl xs,v,bs=>fun hb h=>by
  simp only[NV]at h⊢;obtain⟨a,cap,h1,h2,h3,h4⟩:=h;refine⟨a,cap,h1,h2,h3,?_⟩;rcases h4 with h4|⟨b,vs,t,bs',h4,h5,h6,h7,h8,h9⟩
  ·exact .inl h4
  ·subst h5;exact .inr ⟨b,vs,t,bs',h4,rfl,by rw[hb b (by simp)];exact h6,h7,h8,NR.congr (fun b' hb'=>hb b' (by simp[hb'])) h9⟩
theorem NC.congr{w w':World}:∀{xs:List D}{vs:List Value}{bs:List Nat},(∀b∈bs,w'.heap[b]?=w.heap[b]?)->NC w xs vs bs->NC w' xs vs bs
 |[],_,_=>fun _ h=>h
 |c::cs,vs,bs=>fun hb h=>by
  simp only[NC]at h⊢;obtain⟨v,r,b1,b2,h1,h2,h3,h4⟩:=h;subst h2;exact⟨v,r,b1,b2,h1,rfl,NV.congr (fun b h=>hb b (by simp[h])) h3,NC.congr (fun b h=>hb b (by simp[h])) h4⟩
theorem NR.congr{w w':World}{e:Nat}:∀{xs:List D}{vs:List Value}{bs:List Nat},(∀b∈bs,w'.heap[b]?=w.heap[b]?)->NR w e xs vs bs->NR w' e xs vs bs
 |[],_,_=>fun _ h=>h
 |.agg cs::xs,vs,bs=>fun hb h=>by
  simp only[NR]at h⊢;obtain⟨us,r,b1,b2,h1,h0,h2,h3,h4⟩:=h;subst h2;exact⟨us,r,b1,b2,h1,h0,rfl,NC.congr (fun b h=>hb b (by simp[h])) h3,NR.congr (fun b h=>hb b (by simp[h])) h4⟩
 |.any::xs,vs,bs=>fun hb h=>by
  simp only[NR]at h⊢;obtain⟨v,r,b1,b2,h1,h0,h2,h3,h4⟩:=h;exact h3.elim
 |.lit u::xs,vs,bs=>fun hb h=>by
  have hc:=fun v b=>NV.congr (w:=w) (w':=w') (x:=.lit u) (v:=v) (bs:=b)
  simp only[NR]at h⊢;obtain⟨v,r,b1,b2,h1,h0,h2,h3,h4⟩:=h;subst h2;exact⟨v,r,b1,b2,h1,h0,rfl,hc v b1 (fun b h=>hb b (by simp[h])) h3,NR.congr (fun b h=>hb b (by simp[h])) h4⟩
 |.sl e' nl ys::xs,vs,bs=>fun hb h=>by
  have hc:=fun v b=>NV.congr (w:=w) (w':=w') (x:=.sl e' nl ys) (v:=v) (bs:=b)
  simp only[NR]at h⊢;obtain⟨v,r,b1,b2,h1,h0,h2,h3,h4⟩:=h;subst h2;exact⟨v,r,b1,b2,h1,h0,rfl,hc v b1 (fun b h=>hb b (by simp[h])) h3,NR.congr (fun b h=>hb b (by simp[h])) h4⟩
end
theorem NX.imp{β β':gU}{O O':Own}{w w':World}{x x':AV}{v:Value}{bs:List Nat}(hb:∀b∈bs,w'.heap[b]?=w.heap[b]?)
 (hx:(∃d,x=.dp d/\x'=.dp d)\/(∀d,x≠ .dp d)/\(∀d,x'≠ .dp d)/\(AV.ok β O w x v->AV.ok β' O' w' x' v)) (h:NX β O w x v bs):NX β' O' w' x' v bs:=by
 rcases hx with⟨d,rfl,rfl⟩|⟨h1,h2,h3⟩
 ·exact NV.congr hb h
 ·have e1:AV.ok β O w x v/\bs=[]:=by cases x<;>first|exact h|exact absurd rfl (h1 _)
  have e2:AV.ok β' O' w' x' v/\bs=[]:=⟨h3 e1.1,e1.2⟩;cases x'<;>first|exact e2|exact absurd rfl (h2 _)
theorem vp.imp{β β':gU}{O O':Own}{w w':World}{f:AV->AV}(hf:∀x v,((∃d,x=.dp d/\f x=.dp d)\/(∀d,x≠ .dp d)/\(∀d,f x≠ .dp d)/\(AV.ok β O w x v->AV.ok β' O' w' (f x) v))):
 ∀{xs:List AV}{vs:List Value}{bs:List Nat},(∀b∈bs,w'.heap[b]?=w.heap[b]?)->vp β O w xs vs bs->vp β' O' w' (xs.map f) vs bs
 |[],_,_=>fun _ h=>h
 |x::xs,vs,bs=>fun hb h=>by
  simp only[vp,aX]at h⊢;obtain⟨v,r,b1,b2,h1,h2,h3,h4⟩:=h;subst h2;exact⟨v,r,b1,b2,h1,rfl,h3.imp (fun b h=>hb b (by simp[h])) (hf x v),vp.imp hf (fun b h=>hb b (by simp[h])) h4⟩
theorem Ge.imp{β β':gU}{O O':Own}{w w':World}{f:AV->AV}{t e n:Nat}{u:Value}{bs:List Nat}{cs:List AV}
 (hf:∀x v,((∃d,x=.dp d/\f x=.dp d)\/(∀d,x≠ .dp d)/\(∀d,f x≠ .dp d)/\(AV.ok β O w x v->AV.ok β' O' w' (f x) v)))
 (hb:∀b∈bs,w'.heap[b]?=w.heap[b]?) (hm:∀b cap,u=.slice (some ⟨b,0,none⟩) n cap->w'.heap[b]?=w.heap[b]?) (h:Ge β O w t e n u bs cs):Ge β' O' w' t e n u bs (cs.map f):=by
 obtain⟨h0,h⟩:=h;refine⟨by simpa using h0,?_⟩;rcases h with h|⟨b,cap,vs,h1,h2,h3,h4,h5,h6,h7,h8⟩
 ·exact .inl h
 ·exact .inr ⟨b,cap,vs,h1,by rw[hm b cap h1];exact h2,h3,h4,h5,h6,h7,vp.imp hf hb h8⟩
theorem Gf.imp{β β':gU}{O O':Own}{w w':World}{f:AV->AV}{e n:Nat}{u:Value}{bs:List Nat}{cs:List AV}
 (hf:∀x v,((∃d,x=.dp d/\f x=.dp d)\/(∀d,x≠ .dp d)/\(∀d,f x≠ .dp d)/\(AV.ok β O w x v->AV.ok β' O' w' (f x) v)))
 (hb:∀b∈bs,w'.heap[b]?=w.heap[b]?) (hm:∀b cap,u=.slice (some ⟨b,0,none⟩) n cap->0<cap->w'.heap[b]?=w.heap[b]?) (h:Gf β O w e n u bs cs):Gf β' O' w' e n u bs (cs.map f):=by
 obtain⟨h0,h⟩:=h;refine⟨by simpa using h0,?_⟩;rcases h with h|⟨b,cap,vs,t,h1,h2,h3,h4,h5,h6,h9,h7,h8⟩
 ·exact .inl h
 ·exact .inr ⟨b,cap,vs,t,h1,by rw[hm b cap h1 h9];exact h2,h3,h4,h5,h6,h9,h7,vp.imp hf hb h8⟩
theorem zK{β β':gU}{O O':Own}{w w':World}(h:∀x v,AV.ok β O w x v->AV.ok β' O' w' x v)(x:AV)(v:Value):
 ((∃d,x=.dp d/\x=.dp d)\/(∀d,x≠ .dp d)/\(∀d,x≠ .dp d)/\(AV.ok β O w x v->AV.ok β' O' w' x v)):=by
 cases x with
 |dp d=>exact .inl ⟨d,rfl,rfl⟩
 |_=>exact .inr ⟨fun d h=>(nomatch h),fun d h=>(nomatch h),h _ v⟩
def Gb(w:World):=(w.os,w.output,w.tape)
structure Ctx where
 O:Own
 β:gU
 s:gL
 w:World
 k:Nat
 ro:Option Nat:=none
 dom:Nat:=0
 nm:Bool:=false
def Ctx.uX(C:Ctx):Fence:={fn:=fun _=>True,depth:=none,alive:=false,round:=C.ro}
def N7(D:Nat):Deferred:={target:=.collected D,args:=#[]}
def Marks(C:Ctx)(ds:List Deferred):Prop:=
 (C.nm=true->ds=[])/\∃Ds:List Nat,ds=Ds.map N7/\Ds.Nodup/\∀D∈Ds,C.dom<=D/\D<C.w.heap.size/\C.w.heap[D]?=some (.deferred (some []))/\∀id,¬gF C.β C.s id D
theorem Marks.nil{C:Ctx}:Marks C []:=⟨fun _=>rfl,[],rfl,.nil,fun _ h=>by cases h⟩
def Ctx.gP(C:Ctx)(β:gU)(s:gL):Own:=fun b o=>C.O b o\/own β s b o
structure Inv(C:Ctx)(β:gU)(s:gL)(w:World):Prop where
 size:C.w.heap.size<=w.heap.size
 io:Gb w=Gb C.w
 keep:∀b o v,C.w.cell? ⟨b,o,none⟩=some v->¬own C.β C.s b o->w.cell? ⟨b,o,none⟩=some v
 uy:∀b,b<C.w.heap.size->(∀id,¬gF C.β C.s id b)->w.heap[b]?=C.w.heap[b]?
 rH:∀b o,own β s b o->own C.β C.s b o\/C.w.heap.size<=b
 vt:∀id b,gF β s id b->(∃i,gF C.β C.s i b)\/C.w.heap.size<=b
 pl:∀id,id<C.k->mM (C.β id) (β id)
 low:∀b o,C.O b o->b<C.w.heap.size/\¬own C.β C.s b o
 obs:∀id,vG β (C.gP β s) w id (sat s id)
 inj:∀i j b,gF β s i b->gF β s j b->i=j
structure St(C:Ctx)(β:gU)(env:List AV)(s:gL)(a:Act)(w:World):Prop where
 defers:Marks C a.defers
 inv:Inv C β s w
 len:a.tmps.size=env.length
 env:∀i x,env[i]?=some x->AV.ok β (C.gP β s) w x (a.tmps.getD i undef)
theorem Inv.vq{C:Ctx}{β:gU}{s:gL}{w:World}(h:Inv C β s w){id b:Nat}(hb:gF β s id b):b<w.heap.size:=by
 have ho:=h.obs id;unfold gF at hb;cases hs:sat s id with
 |dead=>rw[hs]at hb;exact hb.elim
 |obj t cs=>
  rw[hs]at hb ho;obtain⟨b',vs,h1,h2,_,_⟩:=ho;rw[hb]at h1;cases h1;exact(bA.1 h2).1
 |tok t e n=>
  rw[hs]at hb ho;obtain⟨cap,hb⟩:=hb;obtain⟨u,h1,h2⟩:=ho;rw[hb]at h1;cases h1;rcases h2 with⟨h2,_⟩|⟨b',cap',vs,h2,h3,_⟩
  ·cases h2
  ·cases h2;exact(bA.1 h3).1
 |iM t e n cs=>
  rw[hs]at hb ho;obtain⟨cap,hb⟩:=hb;obtain⟨u,h1,_,h2⟩:=ho;rw[hb]at h1;cases h1;rcases h2 with⟨h2,_⟩|⟨b',cap',vs,h2,h3,_⟩
  ·cases h2
  ·cases h2;exact(bA.1 h3).1
 |pI t e n cs=>
  rw[hs]at hb ho;obtain⟨v,bs,hb,hb2⟩:=hb;obtain⟨u,bs',h1,h0,_,h2⟩:=ho;rw[hb]at h1;cases h1;rcases hb2 with⟨cap,rfl⟩|hb2
  ·rcases h2 with⟨h2,_⟩|⟨b',cap',vs,h2,h3,_⟩
   ·cases h2
   ·cases h2;exact(bA.1 h3).1
  ·obtain⟨vs,t',h3⟩:=h0 b hb2;exact(bA.1 h3).1
 |vf e n cs=>
  rw[hs]at hb ho;obtain⟨v,bs,hb,hb2⟩:=hb;obtain⟨u,bs',h1,h0,_,h2⟩:=ho;rw[hb]at h1;cases h1;rcases hb2 with⟨cap,rfl,hc0⟩|hb2
  ·rcases h2 with⟨⟨_,h2⟩,_⟩|⟨b',cap',vs,t',h2,h3,_⟩
   ·simp only[cA]at h2;omega
   ·cases h2;exact(bA.1 h3).1
  ·obtain⟨vs,t',h3⟩:=h0 b hb2;exact(bA.1 h3).1
 |mp P k es=>
  rw[hs]at hb ho;obtain⟨b',h1,h2⟩:=ho;rw[hb]at h1;cases h1;obtain⟨xs,c,h3⟩:=h2.block;exact(bA.1 h3).1
theorem Inv.Jj{C:Ctx}{β:gU}{s:gL}{w:World}(h:Inv C β s w){b o:Nat}(hb:own β s b o):b<w.heap.size:=
 let⟨_,hb⟩:=hb.block;h.vq hb
theorem tT{w:World}{b o:Nat}{v:Value}(h:w.cell? ⟨b,o,none⟩=some v):b<w.heap.size:=
 World.block_lt_of_cell? w _ h
structure mT(β:gU)(s:gL)(w:World)(β':gU)(s':gL)(w':World):Prop where
 size:w.heap.size<=w'.heap.size
 io:Gb w'=Gb w
 keep:∀b o v,w.cell? ⟨b,o,none⟩=some v->¬own β s b o->w'.cell? ⟨b,o,none⟩=some v
 uy:∀b,b<w.heap.size->(∀id,¬gF β s id b)->w'.heap[b]?=w.heap[b]?
 rH:∀b o,own β' s' b o->own β s b o\/w.heap.size<=b
 vt:∀id b,gF β' s' id b->(∃i,gF β s i b)\/w.heap.size<=b
 pl:∀id,mM (β id) (β' id)
theorem mT.stays{C:Ctx}{β β':gU}{s s':gL}{w w':World}(m:mT β s w β' s' w'):
 ∀b o v,w.cell? ⟨b,o,none⟩=some v->¬C.gP β s b o->w'.cell? ⟨b,o,none⟩=some v/\¬C.gP β' s' b o:=by
 intro b o v hc hn;have hlt:=tT hc;refine⟨m.keep b o v hc fun h=>hn (.inr h),fun h=>?_⟩;rcases h with h|h
 ·exact hn (.inl h)
 ·rcases m.rH b o h with h|h
  ·exact hn (.inr h)
  ·omega
theorem mT.ok{C:Ctx}{β β':gU}{s s':gL}{w w':World}(m:mT β s w β' s' w'){x:AV}{v:Value}
 (h:AV.ok β (C.gP β s) w x v):AV.ok β' (C.gP β' s') w' x v:=AV.kL m.stays m.pl x v h
theorem mT.QC{C:Ctx}{β β':gU}{s s':gL}{w w':World}(m:mT β s w β' s' w'){xs:List D}{vs:List Value}
 (h:D.hM (C.gP β s) w xs vs):D.hM (C.gP β' s') w' xs vs:=D.jI m.stays xs vs h
theorem mT.hM{C:Ctx}{β β':gU}{s s':gL}{w w':World}(m:mT β s w β' s' w'){xs:List AV}{vs:List Value}
 (h:AV.hM β (C.gP β s) w xs vs):AV.hM β' (C.gP β' s') w' xs vs:=AV.jI m.stays m.pl xs vs h
theorem Inv.move{C:Ctx}{β β':gU}{s s':gL}{w w':World}(h:Inv C β s w)(m:mT β s w β' s' w')
 (hobs:∀id,vG β' (C.gP β' s') w' id (sat s' id)) (hinj:∀i j b,gF β' s' i b->gF β' s' j b->i=j):Inv C β' s' w' where
 size:=bN h.size m.size
 io:=m.io.trans h.io
 keep:=fun b o v hc hn=>by
  have h1:=h.keep b o v hc hn;refine m.keep b o v h1 fun ho=>?_
  rcases h.rH b o ho with h2|h2
  ·exact hn h2
  ·have:=tT hc;omega
 uy:=fun b hb hn=>by
  have h1:=h.uy b hb hn;rw[<-h1];refine m.uy b (eA hb h.size) fun id hid=>?_
  rcases h.vt id b hid with⟨i,hi⟩|h2
  ·exact hn i hi
  ·omega
 rH:=fun b o ho=>by
  rcases m.rH b o ho with h1|h1
  ·exact h.rH b o h1
  ·exact .inr (bN h.size h1)
 vt:=fun id b hb=>by
  rcases m.vt id b hb with⟨i,h1⟩|h1
  ·exact h.vt i b h1
  ·exact .inr (bN h.size h1)
 pl:=fun id hid=>(h.pl id hid).trans (m.pl id)
 low:=h.low
 obs:=hobs
 inj:=hinj
theorem St.move{C:Ctx}{β β':gU}{env:List AV}{s s':gL}{a:Act}{w w':World}(h:St C β env s a w)(m:mT β s w β' s' w')
 (hobs:∀id,vG β' (C.gP β' s') w' id (sat s' id)) (hinj:∀i j b,gF β' s' i b->gF β' s' j b->i=j):St C β' env s' a w' where
 defers:=h.defers
 inv:=h.inv.move m hobs hinj
 len:=h.len
 env:=fun i x hx=>m.ok (h.env i x hx)
theorem St.put{C:Ctx}{β:gU}{env:List AV}{s:gL}{a:Act}{w:World}(h:St C β env s a w){x:AV}{v:Value}
 (hx:AV.ok β (C.gP β s) w x v) (d:Option Tmp):
 St C β (match d with|some d=>env.set d x|none=>env) s (a.put d v) w:=by
 cases d with
 |none=>exact h
 |some d=>
  refine⟨h.defers,h.inv,by simp[Act.put,h.len],fun i y hy=>?_⟩;simp only[Act.put];rw[cO]at hy;by_cases hdi:d=i
  ·subst hdi;simp only[aH]at hy;split at hy
   ·rename_i hlt;cases hy;have:d<a.tmps.size:=by rw[h.len];exact hlt
    simpa[cp,fO,this]using hx
   ·cases hy
  ·simp only[hdi,aG]at hy;have:=h.env i y hy;simpa[cp,fO,hdi]using this
theorem vG.wR{C:Ctx}{β β':gU}{s s':gL}{w w':World}(m:mT β s w β' s' w'){id:Nat}{ob:Ob}
 (h:vG β (C.gP β s) w id ob) (hb:β' id=β id)
 (hh:∀b,gF β s id b->w'.heap[b]?=w.heap[b]?) (hs:sat s id=ob):vG β' (C.gP β' s') w' id ob:=by
 cases ob with
 |dead=>exact hb.trans h
 |obj t cs=>
  obtain⟨b,vs,h1,h2,h0,h3⟩:=h;have hbl:gF β s id b:=by unfold gF;rw[hs];exact h1
  exact⟨b,vs,by rw[hb,h1],by rw[hh b hbl,h2],h0,h3.imp fun _ h=>m.hM h⟩
 |tok t e n=>
  obtain⟨u,h1,h2⟩:=h;refine⟨u,by rw[hb,h1],?_⟩;rcases h2 with h2|⟨b,cap,vs,h2,h3,h4⟩
  ·exact .inl h2
  ·have hbl:gF β s id b:=by unfold gF;rw[hs];exact⟨cap,by rw[h1,h2]⟩
   exact .inr ⟨b,cap,vs,h2,by rw[hh b hbl,h3],h4⟩
 |iM t e n cs=>
  obtain⟨u,h1,hl,h2⟩:=h;refine⟨u,by rw[hb,h1],hl,?_⟩;rcases h2 with h2|⟨b,cap,vs,h2,h3,h4,h5,h6,h7,pre,rest,h8,h9⟩
  ·exact .inl h2
  ·have hbl:gF β s id b:=by unfold gF;rw[hs];exact⟨cap,by rw[h1,h2]⟩
   exact .inr ⟨b,cap,vs,h2,by rw[hh b hbl,h3],h4,h5,h6,h7,pre,rest,h8,m.QC h9⟩
 |pI t e n cs=>
  obtain⟨u,bs,h1,h0,h2⟩:=h;have hbs:∀b∈bs,w'.heap[b]?=w.heap[b]?:=fun b hb'=>hh b (by unfold gF;rw[hs];exact⟨u,bs,h1,.inr hb'⟩)
  refine⟨u,bs,by rw[hb,h1],fun b hb'=>by rw[hbs b hb'];exact h0 b hb',?_⟩;have:=h2.imp (f:=fun x=>x) (zK fun x v=>m.ok) hbs fun b cap hu=>hh b (by unfold gF;rw[hs];exact⟨u,bs,h1,.inl ⟨cap,hu⟩⟩)
  simpa using this
 |vf e n cs=>
  obtain⟨u,bs,h1,h0,h2⟩:=h;have hbs:∀b∈bs,w'.heap[b]?=w.heap[b]?:=fun b hb'=>hh b (by unfold gF;rw[hs];exact⟨u,bs,h1,.inr hb'⟩)
  refine⟨u,bs,by rw[hb,h1],fun b hb'=>by rw[hbs b hb'];exact h0 b hb',?_⟩;have:=h2.imp (f:=fun x=>x) (zK fun x v=>m.ok) hbs fun b cap hu h0=>hh b (by unfold gF;rw[hs];exact⟨u,bs,h1,.inl ⟨cap,hu,h0⟩⟩)
  simpa using this
 |mp P k es=>
  obtain⟨b,h1,h2⟩:=h;have hbl:gF β s id b:=by unfold gF;rw[hs];exact h1
  exact⟨b,by rw[hb,h1],h2.imp (hh b hbl) fun x v h=>D.kL m.stays _ _ h⟩
theorem mT.grow{β:gU}{s:gL}{w w':World}(hs:w.heap.size<=w'.heap.size)(hio:Gb w'=Gb w)
 (hk:∀b,b<w.heap.size->w'.heap[b]?=w.heap[b]?):mT β s w β s w':=by
 refine⟨hs,hio,fun b o v hc _=>?_,fun b hb _=>hk b hb,fun _ _ h=>.inl h,fun id _ h=>.inl ⟨id,h⟩,fun _=>.refl _⟩;rw[<-hc];exact dw (hk b (tT hc))
theorem St.grow{C:Ctx}{β:gU}{env:List AV}{s:gL}{a:Act}{w w':World}(h:St C β env s a w)(hs:w.heap.size<=w'.heap.size)(hio:Gb w'=Gb w)
 (hk:∀b,b<w.heap.size->w'.heap[b]?=w.heap[b]?):St C β env s a w':=by
 have m:mT β s w β s w':=.grow hs hio hk;exact h.move m (fun id=>(h.inv.obs id).wR m rfl (fun b hb=>hk b (h.inv.vq hb)) rfl) h.inv.inj
theorem St.drew{C:Ctx}{β:gU}{env:List AV}{s:gL}{a:Act}{w:World}(h:St C β env s a w):St C β env s a {w with drawn:=w.drawn+1}:=
 h.grow (ay _) rfl fun _ _=>rfl
def NP:Obj->Bool
 |.map _ _=>true
 |_=>false
def T4(o:Obj):Prop:=o.isCells=false/\NP o=false
theorem LK{w:World}{row:Option Nat}(hr:∀r,row=some r->∃o:Obj,w.heap[r]?=some o/\T4 o):∀r,row=some r->∃o:Obj,w.heap[r]?=some o/\o.isCells=false:=
 fun r e=>let⟨o,h1,h2⟩:=hr r e;⟨o,h1,h2.1⟩
theorem A5{w w':World}{row:Option Nat}(hg:w.grownBy w' row)(hr:∀r,row=some r->∃o:Obj,w.heap[r]?=some o/\T4 o){b:Nat}{xs:Array MapEntry}{c:Nat}(h:w.heap[b]?=some (.map xs c)):w'.heap[b]?=w.heap[b]?:=by
 refine hg.block b (bA.1 h).1 fun e=>?_
 obtain⟨o,h1,h2⟩:=hr b e.symm;rw[h]at h1;cases h1;simp[T4,NP]at h2
theorem vG.Je{β:gU}{O:Own}{w w':World}{row:Option Nat}(hg:w.grownBy w' row)(hr:∀r,row=some r->∃o:Obj,w.heap[r]?=some o/\T4 o){id:Nat}{ob:Ob}
 (h:vG β O w id ob):vG β O w' id ob:=by
 have hs:∀b o v,w.cell? ⟨b,o,none⟩=some v->¬O b o->w'.cell? ⟨b,o,none⟩=some v/\¬O b o:=fun b o v hc hn=>⟨cell_kept hc hg (LK hr),hn⟩
 have hb:∀(b:Nat)(vs:Array Value)(t:TypeId),w.heap[b]?=some (.cells vs t (0,0))->w'.heap[b]?=some (.cells vs t (0,0)):=fun b vs t h=>(fD hg (LK hr) h rfl).trans h
 cases ob with
 |dead=>exact h
 |obj t cs=>
  obtain⟨b,vs,h1,h2,h0,h3⟩:=h;exact⟨b,vs,h1,hb _ _ _ h2,h0,h3.imp fun _ h=>AV.jI hs (fun _=>.refl _) _ _ h⟩
 |tok t e n=>
  obtain⟨u,h1,h2⟩:=h;refine⟨u,h1,?_⟩;rcases h2 with h2|⟨b,cap,vs,h2,h3,h4⟩
  ·exact .inl h2
  ·exact .inr ⟨b,cap,vs,h2,hb _ _ _ h3,h4⟩
 |iM t e n cs=>
  obtain⟨u,h1,hl,h2⟩:=h;refine⟨u,h1,hl,?_⟩;rcases h2 with h2|⟨b,cap,vs,h2,h3,h4,h5,h6,h7,pre,rest,h8,h9⟩
  ·exact .inl h2
  ·exact .inr ⟨b,cap,vs,h2,hb _ _ _ h3,h4,h5,h6,h7,pre,rest,h8,D.jI hs _ _ h9⟩
 |pI t e n cs=>
  obtain⟨u,bs,h1,h0,h2⟩:=h;have hbs:∀b∈bs,w'.heap[b]?=w.heap[b]?:=fun b hb'=>by obtain⟨vs,t',h3⟩:=h0 b hb';exact fD hg (LK hr) h3 rfl
  refine⟨u,bs,h1,fun b hb'=>by rw[hbs b hb'];exact h0 b hb',h2.1,?_⟩;rcases h2.2 with h2|⟨b,cap,vs,h2,h3,h4,h5,h6,h7,h8,h9⟩
  ·exact .inl h2
  ·refine .inr ⟨b,cap,vs,h2,hb _ _ _ h3,h4,h5,h6,h7,h8,?_⟩;have:=vp.imp (f:=fun x=>x) (zK fun x v=>AV.kL hs (fun _=>.refl _) x v) hbs h9;simpa using this
 |vf e n cs=>
  obtain⟨u,bs,h1,h0,h2⟩:=h;have hbs:∀b∈bs,w'.heap[b]?=w.heap[b]?:=fun b hb'=>by obtain⟨vs,t',h3⟩:=h0 b hb';exact fD hg (LK hr) h3 rfl
  refine⟨u,bs,h1,fun b hb'=>by rw[hbs b hb'];exact h0 b hb',h2.1,?_⟩;rcases h2.2 with h2|⟨b,cap,vs,t,h2,h3,h4,h5,h6,h7,h10,h8,h9⟩
  ·exact .inl h2
  ·refine .inr ⟨b,cap,vs,t,h2,hb _ _ _ h3,h4,h5,h6,h7,h10,h8,?_⟩;have:=vp.imp (f:=fun x=>x) (zK fun x v=>AV.kL hs (fun _=>.refl _) x v) hbs h9;simpa using this
 |mp P k es=>
  obtain⟨b,h1,h2⟩:=h;obtain⟨xs,c,h3⟩:=h2.block;exact⟨b,h1,h2.imp (A5 hg hr h3) fun x v h=>D.kL hs _ _ h⟩
theorem Inv.Je{C:Ctx}{β:gU}{s:gL}{w w':World}{row:Option Nat}(h:Inv C β s w)(hg:w.grownBy w' row)
 (hr:∀r,row=some r->C.w.heap.size<=r/\∃o:Obj,w.heap[r]?=some o/\T4 o):Inv C β s w' where
 size:=bN h.size hg.size
 io:=by rw[<-h.io];simp only[Gb,hg.os,hg.tape,hg.output]
 keep:=fun b o v hc hn=>cell_kept (h.keep b o v hc hn) hg (LK fun r e=>(hr r e).2)
 uy:=fun b hb hn=>(hg.block b (eA hb h.size) fun e=>by have:=(hr b e.symm).1;omega).trans (h.uy b hb hn)
 rH:=h.rH
 vt:=h.vt
 pl:=h.pl
 low:=h.low
 obs:=fun id=>(h.obs id).Je hg fun r e=>(hr r e).2
 inj:=h.inj
theorem Inv.ro{C:Ctx}{β:gU}{s:gL}{w:World}(r:Option Nat)(d:Nat)(h:Inv C β s w):Inv {C with ro:=r,dom:=d,nm:=false} β s w:=
 ⟨h.size,h.io,h.keep,h.uy,h.rH,h.vt,h.pl,h.low,h.obs,h.inj⟩
theorem Inv.ro'{C:Ctx}{β:gU}{s:gL}{w:World}{r:Option Nat}{d:Nat}(h:Inv {C with ro:=r,dom:=d,nm:=false} β s w):Inv C β s w:=
 ⟨h.size,h.io,h.keep,h.uy,h.rH,h.vt,h.pl,h.low,h.obs,h.inj⟩
theorem Inv.here{C:Ctx}{β0:gU}{s0:gL}{w0:World}{K:Nat}(h0:Inv C β0 s0 w0):Inv {C with β:=β0,s:=s0,w:=w0,k:=K} β0 s0 w0 where
 size:=ay _
 io:=rfl
 keep:=fun _ _ _ h _=>h
 uy:=fun _ _ _=>rfl
 rH:=fun _ _ h=>.inl h
 vt:=fun id _ h=>.inl ⟨id,h⟩
 pl:=fun _ _=>.refl _
 low:=fun b o h=>⟨eA (h0.low b o h).1 h0.size,fun h2=>by
  rcases h0.rH b o h2 with h3|h3
  ·exact(h0.low b o h).2 h3
  ·have:=(h0.low b o h).1;omega⟩
 obs:=h0.obs
 inj:=h0.inj
def gV(id:Nat):Nat->Option Nat:=fun i=>if i=id then none else some i
def Ob.kill(id:Nat):Ob->Ob
 |.obj t cs=>.obj t (AV.iI (gV id) cs)
 |.pI t e n cs=>.pI t e n (AV.iI (gV id) cs)
 |.vf e n cs=>.vf e n (AV.iI (gV id) cs)
 |x=>x
def iL(id:Nat):gL->gL
 |[]=>[]
 |(j,x)::r=>(j,if j=id then .dead else x.kill id)::iL id r
theorem tg(s:gL)(id j:Nat):sat (iL id s) j=if j=id then .dead else(sat s j).kill id:=by
 induction s with
 |nil=>simp only[iL,sat];split<;>rfl
 |cons p r ih=>
  obtain⟨q,x⟩:=p;simp only[iL,sat,ih];by_cases hj:j=q
  ·subst hj;simp
  ·simp[hj]
def gM(β:gU)(id:Nat)(p:Place):gU:=fun i=>if i=id then p else β i
theorem wj{β:gU}{s:gL}{id b o:Nat}(h:own (gM β id .no) (iL id s) b o):own β s b o:=by
 obtain⟨i,h⟩:=h;rw[tg]at h;by_cases hi:i=id
 ·subst hi;simp at h
 ·refine⟨i,?_⟩;simp only[hi,aG]at h;cases hs:sat s i with
  |dead=>rw[hs]at h;exact h
  |obj t cs=>rw[hs]at h;simpa[Ob.kill,gM,hi]using h
  |tok t e n=>rw[hs]at h;simpa[Ob.kill,gM,hi]using h
  |iM t e n cs=>rw[hs]at h;simpa[Ob.kill,gM,hi]using h
  |pI t e n cs=>rw[hs]at h;simpa[Ob.kill,gM,hi]using h
  |vf e n cs=>rw[hs]at h;simpa[Ob.kill,gM,hi]using h
  |mp P k es=>rw[hs]at h;simpa[Ob.kill,gM,hi]using h
theorem vH{β:gU}{s:gL}{id i b:Nat}(h:gF (gM β id .no) (iL id s) i b):gF β s i b:=by
 unfold gF at h⊢;rw[tg]at h;by_cases hi:i=id
 ·subst hi;simp at h
 ·simp only[hi,aG]at h;cases hs:sat s i with
  |dead=>rw[hs]at h;exact h
  |obj t cs=>rw[hs]at h;simpa[Ob.kill,gM,hi]using h
  |tok t e n=>rw[hs]at h;simpa[Ob.kill,gM,hi]using h
  |iM t e n cs=>rw[hs]at h;simpa[Ob.kill,gM,hi]using h
  |pI t e n cs=>rw[hs]at h;simpa[Ob.kill,gM,hi]using h
  |vf e n cs=>rw[hs]at h;simpa[Ob.kill,gM,hi]using h
  |mp P k es=>rw[hs]at h;simpa[Ob.kill,gM,hi]using h
theorem wO{C:Ctx}{β:gU}{s:gL}{w:World}{id:Nat}{x:AV}{v:Value}(h:AV.ok β (C.gP β s) w x v):
 AV.ok (gM β id .no) (C.gP (gM β id .no) (iL id s)) w (x.kY (gV id)) v:=by
 have h1:AV.ok (gM β id .no) (C.gP β s) w (x.kY (gV id)) v:=AV.xd (fun i j hij=>by
  unfold gV at hij;split at hij
  ·cases hij
  ·cases hij;simp[gM, *]) x v h
 exact AV.kL (fun b o v hc hn=>⟨hc,fun h=>hn (h.imp (fun x=>x) wj)⟩) (fun _=>.refl _) _ _ h1
theorem DF{C:Ctx}{β:gU}{s:gL}{w:World}{id:Nat}:∀{xs:List AV}{vs:List Value},AV.hM β (C.gP β s) w xs vs->
 AV.hM (gM β id .no) (C.gP (gM β id .no) (iL id s)) w (AV.iI (gV id) xs) vs
 |[],vs=>fun h=>by simpa[AV.iI,AV.hM]using h
 |x::xs,vs=>fun h=>by
  simp only[AV.iI,AV.hM]at h⊢;obtain⟨v,r,h1,h2,h3⟩:=h;exact⟨v,r,h1,wO h2,DF h3⟩
theorem Lt{C:Ctx}{β:gU}{s:gL}{w:World}{id:Nat}{xs:List D}{vs:List Value}(h:D.hM (C.gP β s) w xs vs):
 D.hM (C.gP (gM β id .no) (iL id s)) w xs vs:=
 D.jI (fun _ _ _ hc hn=>⟨hc,fun h=>hn (h.imp (fun x=>x) wj)⟩) xs vs h
theorem xg(ρ:Nat->Option Nat):∀(xs:List AV)(i:Nat),(AV.iI ρ xs)[i]?=(xs[i]?).map (AV.kY ρ)
 |[],_=>by simp[AV.iI]
 |x::xs,0=>by simp[AV.iI]
 |x::xs,i+1=>by simp[AV.iI,xg ρ xs i]
theorem zi(ρ:Nat->Option Nat):∀(xs:List AV),(AV.iI ρ xs).length=xs.length
 |[]=>rfl
 |x::xs=>by simp[AV.iI,zi ρ xs]
theorem ov(ρ:Nat->Option Nat):∀z:List AV,AV.iI ρ z=z.map (AV.kY ρ)
 |[]=>rfl
 |x::xs=>by simp only[aX,AV.iI,ov ρ xs]
theorem r_{β β':gU}{O O':Own}{w w':World}{ρ:Nat->Option Nat}{x:AV}{v:Value}(h:AV.ok β O w x v->AV.ok β' O' w' (x.kY ρ) v):
 ((∃d,x=.dp d/\x.kY ρ=.dp d)\/(∀d,x≠ .dp d)/\(∀d,x.kY ρ≠ .dp d)/\(AV.ok β O w x v->AV.ok β' O' w' (x.kY ρ) v)):=by
 cases x with
 |dp d=>exact .inl ⟨d,rfl,rfl⟩
 |own e j xs=>refine .inr ⟨fun d h=>(nomatch h),fun d h=>?_,h⟩;simp only[AV.kY]at h;split at h<;>exact nomatch h
 |ptr j off=>refine .inr ⟨fun d h=>(nomatch h),fun d h=>?_,h⟩;simp only[AV.kY]at h;split at h<;>exact nomatch h
 |nC e j off len=>refine .inr ⟨fun d h=>(nomatch h),fun d h=>?_,h⟩;simp only[AV.kY]at h;split at h<;>exact nomatch h
 |kG e j k=>refine .inr ⟨fun d h=>(nomatch h),fun d h=>?_,h⟩;simp only[AV.kY]at h;split at h<;>exact nomatch h
 |lT j k off=>refine .inr ⟨fun d h=>(nomatch h),fun d h=>?_,h⟩;simp only[AV.kY]at h;split at h<;>exact nomatch h
 |mp j=>refine .inr ⟨fun d h=>(nomatch h),fun d h=>?_,h⟩;simp only[AV.kY]at h;split at h<;>exact nomatch h
 |_=>exact .inr ⟨fun d h=>(nomatch h),fun d h=>(nomatch h),h⟩
theorem Inv.kill{C:Ctx}{β:gU}{s:gL}{w:World}(h:Inv C β s w)(id:Nat)(hid:C.k<=id):Inv C (gM β id .no) (iL id s) w where
 size:=h.size
 io:=h.io
 keep:=h.keep
 uy:=h.uy
 rH:=fun b o ho=>h.rH b o (wj ho)
 vt:=fun id b hb=>h.vt id b (vH hb)
 pl:=fun i hi=>by
  have:i≠id:=by omega
  simpa[gM,this]using h.pl i hi
 low:=h.low
 obs:=fun i=>by
  rw[tg];by_cases hi:i=id
  ·subst hi;simp[vG,gM]
  ·simp only[hi,aG];have ho:=h.obs i;cases hs:sat s i with
   |dead=>rw[hs]at ho;simpa[Ob.kill,vG,gM,hi]using ho
   |obj t cs=>
    rw[hs]at ho;obtain⟨b,vs,h1,h2,h0,h3⟩:=ho;exact⟨b,vs,by simpa[gM,hi]using h1,h2,h0,h3.imp fun _ h=>DF h⟩
   |tok t e n=>
    rw[hs]at ho;obtain⟨u,h1,h2⟩:=ho;exact⟨u,by simpa[gM,hi]using h1,h2⟩
   |iM t e n cs=>
    rw[hs]at ho;obtain⟨u,h1,hl,h2⟩:=ho;refine⟨u,by simpa[gM,hi]using h1,hl,?_⟩;rcases h2 with h2|⟨b,cap,vs,h2,h3,h4,h5,h6,h7,pre,rest,h8,h9⟩
    ·exact .inl h2
    ·exact .inr ⟨b,cap,vs,h2,h3,h4,h5,h6,h7,pre,rest,h8,Lt h9⟩
   |pI t e n cs=>
    rw[hs]at ho;obtain⟨u,bs,h1,h0,h2⟩:=ho;refine⟨u,bs,by simpa[gM,hi]using h1,h0,?_⟩;rw[ov];exact h2.imp (fun x v=>r_ wO) (fun _ _=>rfl) (fun _ _ _=>rfl)
   |vf e n cs=>
    rw[hs]at ho;obtain⟨u,bs,h1,h0,h2⟩:=ho;refine⟨u,bs,by simpa[gM,hi]using h1,h0,?_⟩;rw[ov];exact h2.imp (fun x v=>r_ wO) (fun _ _=>rfl) (fun _ _ _ _=>rfl)
   |mp P k es=>
    rw[hs]at ho;obtain⟨b,h1,h2⟩:=ho;exact⟨b,by simpa[gM,hi]using h1,h2.imp rfl fun x v hx=>D.kL (fun _ _ _ hc hn=>⟨hc,fun h=>hn (h.imp (fun x=>x) wj)⟩) _ _ hx⟩
 inj:=fun i j b hi hj=>h.inj i j b (vH hi) (vH hj)
theorem St.kill{C:Ctx}{β:gU}{env:List AV}{s:gL}{a:Act}{w:World}(h:St C β env s a w)(id:Nat)(hid:C.k<=id):
 St C (gM β id .no) (AV.iI (gV id) env) (iL id s) a w where
 defers:=h.defers
 inv:=h.inv.kill id hid
 len:=by rw[zi];exact h.len
 env:=fun i x hx=>by
  rw[xg]at hx;cases hy:env[i]? with
  |none=>rw[hy]at hx;cases hx
  |some y=>rw[hy]at hx;cases hx;exact wO (h.env i y hy)
theorem vM{β:gU}{s:gL}{id b o:Nat}{ob:Ob}{p:Place}(h:own (gM β id p) (sset s id ob) b o):
 own β s b o\/own (gM β id p) [(id,ob)] b o:=by
 obtain⟨i,h⟩:=h;rw[jg]at h;by_cases hi:i=id
 ·subst hi;exact .inr ⟨i,by simpa[sat]using h⟩
 ·refine .inl ⟨i,?_⟩;simp only[hi,aG]at h;cases hs:sat s i with
  |dead=>rw[hs]at h;exact h
  |obj t cs=>rw[hs]at h;simpa[gM,hi]using h
  |tok t e n=>rw[hs]at h;simpa[gM,hi]using h
  |iM t e n cs=>rw[hs]at h;simpa[gM,hi]using h
  |pI t e n cs=>rw[hs]at h;simpa[gM,hi]using h
  |vf e n cs=>rw[hs]at h;simpa[gM,hi]using h
  |mp P k es=>rw[hs]at h;first|exact h.elim|simpa[gM,hi]using h
theorem Ox{β:gU}{s:gL}{id b o:Nat}{ob:Ob}{p:Place}(h:own (gM β id p) (sset s id ob) b o):
 (∃i,i≠id/\gF β s i b)\/own (gM β id p) [(id,ob)] b o:=by
 obtain⟨i,h⟩:=h;rw[jg]at h;by_cases hi:i=id
 ·subst hi;exact .inr ⟨i,by simpa[sat]using h⟩
 ·refine .inl ⟨i,hi,?_⟩;simp only[hi,aG]at h;unfold gF;cases hs:sat s i with
  |dead=>rw[hs]at h;exact h
  |obj t cs=>rw[hs]at h;simpa[gM,hi]using h
  |tok t e n=>rw[hs]at h;obtain⟨cap,h1,_⟩:=h;exact⟨cap,by simpa[gM,hi]using h1⟩
  |iM t e n cs=>rw[hs]at h;obtain⟨cap,h1⟩:=h;exact⟨cap,by simpa[gM,hi]using h1⟩
  |pI t e n cs=>rw[hs]at h;obtain⟨cap,bs,h1,_⟩:=h;exact⟨_,bs,by simpa[gM,hi]using h1,.inl ⟨cap,rfl⟩⟩
  |vf e n cs=>rw[hs]at h;simpa[gM,hi]using h
  |mp P k es=>rw[hs]at h;first|exact h.elim|simpa[gM,hi]using h
theorem jH{β:gU}{s:gL}{id i b:Nat}{ob:Ob}{p:Place}(h:gF (gM β id p) (sset s id ob) i b):
 (i≠id/\gF β s i b)\/(i=id/\gF (gM β id p) [(id,ob)] id b):=by
 unfold gF at h⊢;rw[jg]at h;by_cases hi:i=id
 ·subst hi;exact .inr ⟨rfl,by simpa[sat]using h⟩
 ·refine .inl ⟨hi,?_⟩;simp only[hi,aG]at h;cases hs:sat s i with
  |dead=>rw[hs]at h;exact h
  |obj t cs=>rw[hs]at h;simpa[gM,hi]using h
  |tok t e n=>rw[hs]at h;simpa[gM,hi]using h
  |iM t e n cs=>rw[hs]at h;simpa[gM,hi]using h
  |pI t e n cs=>rw[hs]at h;simpa[gM,hi]using h
  |vf e n cs=>rw[hs]at h;simpa[gM,hi]using h
  |mp P k es=>rw[hs]at h;first|exact h.elim|simpa[gM,hi]using h
theorem c_{w:World}{o:Obj}{b:Nat}(h:b<w.heap.size):(w.alloc o).heap[b]?=w.heap[b]?:=Go.RowKit.Below.heap_alloc w o b h
theorem dD{w:World}{o:Obj}:(w.alloc o).heap[w.heap.size]?=some o:=by show(w.heap.push o)[w.heap.size]?=some o;simp
theorem St.fresh{C:Ctx}{β:gU}{env:List AV}{s:gL}{a:Act}{w:World}(h:St C β env s a w){id:Nat}
 {ob:Ob} {p:Place} {c:Array Value} {t:Nat} (hpl:mM (β id) p)
 (hown:∀b o,own (gM β id p) [(id,ob)] b o->b=w.heap.size)
 (hbl:∀b,gF (gM β id p) [(id,ob)] id b->b=w.heap.size)
 (hob:∀β' F,(∀x v,AV.ok β (C.gP β s) w x v->AV.ok β' F (w.alloc (.cells c t)) x v)->(∀xs vs,AV.hM β (C.gP β s) w xs vs->AV.hM β' F (w.alloc (.cells c t)) xs vs)->
  β' id=p->vG β' F (w.alloc (.cells c t)) id ob):
 St C (gM β id p) env (sset s id ob) a (w.alloc (.cells c t))/\mT β s w (gM β id p) (sset s id ob) (w.alloc (.cells c t)):=by
 have m:mT β s w (gM β id p) (sset s id ob) (w.alloc (.cells c t)):=by
  refine⟨by simp,rfl,fun b o v hc _=>?_,fun b hb _=>c_ hb,fun b o ho=>?_,fun i b hb=>?_,fun i=>?_⟩
  ·rw[<-hc];exact dw (c_ (tT hc))
  ·rcases vM ho with ho|ho
   ·exact .inl ho
   ·exact .inr (fF (hown b o ho).symm)
  ·rcases jH hb with⟨_,hb⟩|⟨_,hb⟩
   ·exact .inl ⟨i,hb⟩
   ·exact .inr (fF (hbl b hb).symm)
  ·by_cases hi:i=id
   ·subst hi;simpa[gM]using hpl
   ·simp only[gM,hi,aG];exact .refl _
 refine⟨h.move m (fun i=>?_) (fun i j b hi hj=>?_),m⟩
 ·rw[jg];by_cases hi:i=id
  ·subst hi;simp only[aH];exact hob _ _ (fun x v hx=>m.ok hx) (fun xs vs hx=>m.hM hx) (by simp[gM])
  ·simp only[hi,aG];exact(h.inv.obs i).wR m (by simp[gM,hi]) (fun b hb=>c_ (h.inv.vq hb)) rfl
 ·rcases jH hi with⟨hi1,hi2⟩|⟨rfl,hi2⟩<;>rcases jH hj with⟨hj1,hj2⟩|⟨rfl,hj2⟩
  ·exact h.inv.inj i j b hi2 hj2
  ·have:=h.inv.vq hi2;have:=hbl b hj2;omega
  ·have:=h.inv.vq hj2;have:=hbl b hi2;omega
  ·rfl
theorem St.newObj{C:Ctx}{β:gU}{env:List AV}{s:gL}{a:Act}{w:World}(h:St C β env s a w){id:Nat}(hd:sat s id=.dead)
 {c:Array Value} {t:Nat} {cs:List AV} (h0:∀v∈c.toList,one v=true) (hc:AV.hM β (C.gP β s) w cs c.toList):
 ∃β',St C β' env (sset s id (.obj t cs)) a (w.alloc (.cells c t))/\mT β s w β' (sset s id (.obj t cs)) (w.alloc (.cells c t))/\
  AV.ok β' (C.gP β' (sset s id (.obj t cs))) (w.alloc (.cells c t)) (.ptr id 0) (.pointer (some ⟨w.heap.size,0,none⟩)):=by
 have hno:β id=.no:=by have:=h.inv.obs id;rw[hd]at this;exact this
 obtain⟨h1,h2⟩:=h.fresh (id:=id) (ob:=.obj t cs) (p:=.blk w.heap.size) (c:=c) (t:=t) (by rw[hno];trivial)
  (fun b o ho=>by
   obtain⟨i,ho⟩:=ho;by_cases hi:i=id
   ·subst hi;simp[sat,gM]at ho;exact ho.symm
   ·simp[sat,hi]at ho)
  (fun b hb=>by simp[gF,sat,gM]at hb;exact hb.symm)
  (fun β' F _ hxs hp=>⟨w.heap.size,c,hp,dD,h0,.of (hxs _ _ hc)⟩)
 exact⟨_,h1,h2,by simp only[AV.ok];exact⟨w.heap.size,by simp[gM],rfl⟩⟩
theorem AV.iy{β:gU}{O:Own}{w:World}:∀{xs:List AV}{vs:List Value},AV.hM β O w xs vs->vs.length=xs.length
 |[],vs=>fun h=>by simp[AV.hM]at h;simp[h]
 |x::xs,vs=>fun h=>by
  simp only[AV.hM]at h;obtain⟨v,r,rfl,_,h3⟩:=h;simp[AV.iy h3]
theorem AV.jQ{β:gU}{O:Own}{w:World}:∀{xs:List AV}{vs:List Value},AV.hM β O w xs vs<->
 vs.length=xs.length/\∀(i:Nat)(x:AV)(v:Value),xs[i]?=some x->vs[i]?=some v->AV.ok β O w x v
 |[],vs=>by
  simp only[AV.hM];constructor
  ·rintro rfl;simp
  ·rintro⟨h,_⟩;exact bY.1 h
 |x::xs,vs=>by
  simp only[AV.hM];constructor
  ·rintro⟨v,r,rfl,h2,h3⟩;obtain⟨h4,h5⟩:=AV.jQ.1 h3;refine⟨by simp[h4],fun i y u hy hu=>?_⟩;cases i with
   |zero=>simp at hy hu;subst hy;subst hu;exact h2
   |succ i=>simp at hy hu;exact h5 i y u hy hu
  ·rintro⟨h1,h2⟩;cases vs with
   |nil=>simp at h1
   |cons v r=>exact⟨v,r,rfl,h2 0 x v rfl rfl,AV.jQ.2 ⟨by simpa using h1,fun i y u hy hu=>h2 (i+1) y u (by simpa using hy) (by simpa using hu)⟩⟩
theorem D.iy{O:Own}{w:World}:∀{xs:List D}{vs:List Value},D.hM O w xs vs->vs.length=xs.length
 |[],vs=>fun h=>by simp[D.hM]at h;simp[h]
 |x::xs,vs=>fun h=>by
  simp only[D.hM]at h;obtain⟨v,r,rfl,_,_,h3⟩:=h;simp[D.iy h3]
theorem D.jQ{O:Own}{w:World}:∀{xs:List D}{vs:List Value},D.hM O w xs vs<->
 vs.length=xs.length/\∀(i:Nat)(x:D)(v:Value),xs[i]?=some x->vs[i]?=some v->one v=true/\D.ok O w x v
 |[],vs=>by
  simp only[D.hM];constructor
  ·rintro rfl;simp
  ·rintro⟨h,_⟩;exact bY.1 h
 |x::xs,vs=>by
  simp only[D.hM];constructor
  ·rintro⟨v,r,rfl,h0,h2,h3⟩;obtain⟨h4,h5⟩:=D.jQ.1 h3;refine⟨by simp[h4],fun i y u hy hu=>?_⟩;cases i with
   |zero=>simp at hy hu;subst hy;subst hu;exact⟨h0,h2⟩
   |succ i=>simp at hy hu;exact h5 i y u hy hu
  ·rintro⟨h1,h2⟩;cases vs with
   |nil=>simp at h1
   |cons v r=>exact⟨v,r,rfl,(h2 0 x v rfl rfl).1,(h2 0 x v rfl rfl).2,D.jQ.2 ⟨by simpa using h1,fun i y u hy hu=>h2 (i+1) y u (by simpa using hy) (by simpa using hu)⟩⟩
def cD:Value->D
 |.slice none 0 0=>.sl 0 (some true) []
 |v=>if one v then .lit v else .any
def MP:Value->AV
 |.agg cs=>if cs.toList.all one then .d (.agg (cs.toList.map cD))else .iB
 |.tuple _=>.iB
 |v=>.d (cD v)
theorem JQ{O:Own}{w:World}(v:Value)(h:one v=true):D.ok O w (cD v) v:=by
 unfold cD;split
 ·simp only[D.ok];exact⟨none,0,rfl,⟨ay _,gB⟩,⟨rfl,rfl⟩,.inl trivial⟩
 ·simp[h,D.ok]
theorem BE{O:Own}{w:World}:∀(vs:List Value),(∀v∈vs,one v=true)->D.hM O w (vs.map cD) vs
 |[],_=>by simp[D.hM]
 |v::vs,h=>by
  simp only[aX,D.hM];exact⟨v,vs,rfl,h v (by simp),JQ v (h v (by simp)),BE vs fun u hu=>h u (by simp[hu])⟩
theorem T9{β:gU}{O:Own}{w:World}(v:Value):AV.ok β O w (MP v) v:=by
 unfold MP;split
 ·split
  ·rename_i cs h;simp only[AV.ok,D.ok];exact⟨cs,rfl,BE _ fun v hv=>by simpa using cH.1 h v hv⟩
  ·simp[AV.ok]
 ·simp[AV.ok]
 ·rename_i h1 h2;simp only[AV.ok];exact JQ v (by cases v<;>simp_all[one])
def ev(env:List AV):Operand->AV
 |.tmp t=>env.getD t .iB
 |.const v=>MP v
 |.func f=>.fn f [] []
 |.global _=>.iB
theorem St.ev{C:Ctx}{β:gU}{env:List AV}{s:gL}{a:Act}{w:World}(h:St C β env s a w)(x:Operand):
 AV.ok β (C.gP β s) w (ev env x) (a.eval x):=by
 cases x with
 |tmp t=>
  simp only[kI.ev,Act.eval,List.getD];cases hx:env[t]? with
  |none=>simp[AV.ok]
  |some y=>exact h.env t y hx
 |const v=>exact T9 v
 |global g=>simp[kI.ev,AV.ok]
 |func f=>simp only[kI.ev,Act.eval,AV.ok,AV.hM];exact⟨#[],#[],rfl,rfl,rfl⟩
def nB(P:Program)(C:Ctx)(o:Oper)(env:List AV)(s:gL)(k:List AV->gL->Prop):Prop:=
 (∀c,o.op≠ .defer c)->∀Q β a w,St C β env s a w->o.wpIn C.uX 0 P a w (fun a' w'=>∃β' env' s',St C β' env' s' a' w'/\k env' s') Q
def iq(d:Option Nat)(env:List AV)(x:AV):List AV:=match d with|some d=>env.set d x|none=>env
theorem nB.value{P:Program}{C:Ctx}{o:Oper}{env:List AV}{s:gL}{k:List AV->gL->Prop}
 (h:∀β a w,St C β env s a w->∃v w' β' env' s' x,(execOp a.eval o).run P w=.ok (.value v) w'/\St C β' env' s' a w'/\
  AV.ok β' (C.gP β' s') w' x v/\k (iq o.dst env' x) s'):nB P C o env s k:=by
 intro hnd Q β a w hst;obtain⟨v,w',β',env',s',x,hr,h1,h2,h3⟩:=h β a w hst;refine⟨fun _ _=>trivial,?_⟩;rw[Oper.semAt_eq _ _ _ hnd,hr];exact⟨β',_,s',h1.put h2 o.dst,h3⟩
theorem nB.pure{P:Program}{C:Ctx}{o:Oper}{env:List AV}{s:gL}{k:List AV->gL->Prop}{x:AV}
 (h:∀β a w,St C β env s a w->∃v,(execOp a.eval o).run P w=.ok (.value v) w/\AV.ok β (C.gP β s) w x v)
 (hk:k (iq o.dst env x) s):nB P C o env s k:=
 .value fun β a w hst=>let⟨v,h1,h2⟩:=h β a w hst;⟨v,w,β,env,s,x,h1,hst,h2,hk⟩
theorem xy{β:gU}{O:Own}{w:World}{x:AV}{v:Value}(h:AV.ok β O w x v){cs:List AV}(hc:x.cells=some cs):
 AV.hM β O w cs v.cells.toList/\∀u∈v.cells.toList,one u=true:=by
 have single:∀(y:AV),AV.ok β O w y v->(∀c,v≠ .agg c)->one v=true->AV.hM β O w [y] v.cells.toList/\∀u∈v.cells.toList,one u=true:=by
  intro y hy hn h1;have:v.cells=#[v]:=by cases v<;>simp_all[Value.cells]
  rw[this];exact⟨by simp only[AV.hM];exact⟨v,[],rfl,hy,rfl⟩,by simpa using h1⟩
 cases x with
 |iB=>simp[AV.cells]at hc
 |nk xs=>simp[AV.cells]at hc
 |agg xs=>
  simp only[AV.cells,aR]at hc;subst hc;simp only[AV.ok]at h;obtain⟨vs,rfl,h0,h1⟩:=h;exact⟨h1,h0⟩
 |d x=>
  cases x with
  |agg xs=>
   simp only[AV.cells,aR]at hc;subst hc;simp only[AV.ok,D.ok]at h;obtain⟨vs,rfl,h1⟩:=h;show AV.hM β O w (xs.map .d) vs.toList/\_;rw[D.jQ]at h1;refine⟨AV.jQ.2 ⟨by simp[h1.1],fun i y v hy hv=>?_⟩,fun u hu=>?_⟩
   ·rw[bq]at hy;cases hz:xs[i]? with
    |none=>rw[hz]at hy;cases hy
    |some z=>rw[hz]at hy;cases hy;exact(h1.2 i z v hz hv).2
   ·obtain⟨i,hi⟩:=cK hu;have hlt:i<xs.length:=by rw[<-h1.1];exact(aP.1 hi).1
    exact(h1.2 i _ u (aB hlt) hi).1
  |any=>
   simp only[AV.cells,aR]at hc;subst hc;simp only[AV.ok,D.ok]at h;exact single _ (by simpa[AV.ok,D.ok]using h) (by intro c e;subst e;simp[one]at h) h
  |lit u=>
   simp only[AV.cells,aR]at hc;subst hc;have h':=h;simp only[AV.ok,D.ok]at h;obtain⟨rfl,h1⟩:=h;exact single _ h' (by intro c e;subst e;simp[one]at h1) h1
  |sl e nl ys=>
   simp only[AV.cells,aR]at hc;subst hc;have h':=h;simp only[AV.ok,D.ok]at h;obtain⟨a,cap,rfl,_⟩:=h;exact single _ h' (by intro c e;cases e) rfl
 |own e id xs=>
  simp only[AV.cells,aR]at hc;subst hc;have h':=h;simp only[AV.ok,D.ok]at h;obtain⟨⟨a,cap,rfl,_⟩,_⟩:=h;exact single _ h' (by intro c e;cases e) rfl
 |ptr id off=>
  simp only[AV.cells,aR]at hc;subst hc;have h':=h;simp only[AV.ok]at h;obtain⟨b,_,rfl⟩:=h;exact single _ h' (by intro c e;cases e) rfl
 |nC e id off len=>
  simp only[AV.cells,aR]at hc;subst hc;have h':=h;simp only[AV.ok]at h;obtain⟨b,cap,_,_,rfl⟩:=h;exact single _ h' (by intro c e;cases e) rfl
 |pv cs'=>
  simp only[AV.cells,aR]at hc;subst hc;have h':=h;simp only[AV.ok]at h;obtain⟨b,o,vs,rfl,_⟩:=h;exact single _ h' (by intro c e;cases e) rfl
 |pa cs'=>
  simp only[AV.cells,aR]at hc;subst hc;have h':=h;simp only[AV.ok]at h;obtain⟨b,o,vs,rfl,_⟩:=h;exact single _ h' (by intro c e;cases e) rfl
 |fn f a b=>
  simp only[AV.cells,aR]at hc;subst hc;have h':=h;simp only[AV.ok]at h;obtain⟨fs,cs',rfl,_⟩:=h;exact single _ h' (by intro c e;cases e) rfl
 |kG e id n=>
  simp only[AV.cells,aR]at hc;subst hc;have h':=h;simp only[AV.ok]at h;obtain⟨u,m,_,_,_,⟨_,rfl,_⟩|⟨b,cap,rfl,_⟩⟩:=h
  ·exact single _ h' (by intro c e;cases e) rfl
  ·exact single _ h' (by intro c e;cases e) rfl
 |lT id k off=>
  simp only[AV.cells,aR]at hc;subst hc;have h':=h;simp only[AV.ok]at h;obtain⟨u,m,b,off',_,_,rfl,_⟩:=h;exact single _ h' (by intro c e;cases e) rfl
 |BS e xs=>
  simp only[AV.cells,aR]at hc;subst hc;have h':=h;simp only[AV.ok]at h;obtain⟨a,rfl,_⟩:=h;exact single _ h' (by intro c e;cases e) rfl
 |dp d=>simp[AV.cells]at hc
 |mp id=>
  simp only[AV.cells,aR]at hc;subst hc;have h':=h;simp only[AV.ok]at h;obtain⟨b,_,rfl⟩:=h;exact single _ h' (by intro c e;cases e) rfl
theorem KI:∀{cs:List AV}{ds:List D},AV.rI cs=some ds->cs=ds.map .d
 |[],ds=>fun h=>by simp only[AV.rI,aR]at h;subst h;rfl
 |.d x::xs,ds=>fun h=>by
  simp only[AV.rI,aF]at h;obtain⟨es,h1,rfl⟩:=h;simp[KI h1]
 |.iB::_,_=>fun h=>by simp[AV.rI]at h
 |.own .. ::_,_=>fun h=>by simp[AV.rI]at h
 |.ptr .. ::_,_=>fun h=>by simp[AV.rI]at h
 |.nC .. ::_,_=>fun h=>by simp[AV.rI]at h
 |.pv .. ::_,_=>fun h=>by simp[AV.rI]at h
 |.pa .. ::_,_=>fun h=>by simp[AV.rI]at h
 |.agg .. ::_,_=>fun h=>by simp[AV.rI]at h
 |.nk .. ::_,_=>fun h=>by simp[AV.rI]at h
 |.fn .. ::_,_=>fun h=>by simp[AV.rI]at h
 |.kG .. ::_,_=>fun h=>by simp[AV.rI]at h
 |.lT .. ::_,_=>fun h=>by simp[AV.rI]at h
 |.BS .. ::_,_=>fun h=>by simp[AV.rI]at h
 |.dp .. ::_,_=>fun h=>by simp[AV.rI]at h
 |.mp .. ::_,_=>fun h=>by simp[AV.rI]at h
theorem Oh{β:gU}{O:Own}{w:World}{cs:List AV}{vs:Array Value}(h:AV.hM β O w cs vs.toList)(h1:∀u∈vs.toList,one u=true):
 AV.ok β O w (AV.mk cs) (.agg vs):=by
 unfold AV.mk;split
 ·rename_i ds hd;have:=KI hd;subst this;simp only[AV.ok,D.ok];refine⟨vs,rfl,?_⟩;rw[AV.jQ]at h;rw[D.jQ];refine⟨by simpa using h.1,fun i x v hx hv=>⟨h1 v (bQ hv),?_⟩⟩;have:=h.2 i (.d x) v (by simp[hx]) hv;simpa[AV.ok]using this
 ·simp only[AV.ok];exact⟨vs,rfl,h1,h⟩
theorem ze{β:gU}{O:Own}{w:World}(n:Nat){xs:List AV}{vs:List Value}(h:AV.hM β O w xs vs):AV.hM β O w (xs.drop n) (vs.drop n):=by
 rw[AV.jQ]at h⊢;exact⟨by simp[h.1],fun i x v hx hv=>h.2 (n+i) x v (by simpa using hx) (by simpa using hv)⟩
theorem zg{β:gU}{O:Own}{w:World}(n:Nat){xs:List AV}{vs:List Value}(h:AV.hM β O w xs vs):AV.hM β O w (xs.take n) (vs.take n):=by
 rw[AV.jQ]at h⊢;refine⟨by simp[h.1],fun i x v hx hv=>?_⟩;rw[bX]at hx hv;split at hx
 ·rename_i hi;rw[ah hi]at hv;exact h.2 i x v hx hv
 ·cases hx
theorem oH{β:gU}{O:Own}{w:World}{xs ys:List AV}{vs us:List Value}(h:AV.hM β O w xs vs)(k:AV.hM β O w ys us):
 AV.hM β O w (xs++ys) (vs++us):=by
 induction xs generalizing vs with
 |nil=>simp only[AV.hM]at h;subst h;simpa using k
 |cons x xs ih=>
  simp only[AV.hM]at h;obtain⟨v,r,rfl,h1,h2⟩:=h;simp only[cg,AV.hM];exact⟨v,r++us,rfl,h1,ih h2⟩
theorem zD{O:Own}{w:World}(n:Nat){xs:List D}{vs:List Value}(h:D.hM O w xs vs):D.hM O w (xs.drop n) (vs.drop n):=by
 rw[D.jQ]at h⊢;exact⟨by simp[h.1],fun i x v hx hv=>h.2 (n+i) x v (by simpa using hx) (by simpa using hv)⟩
theorem BL{O:Own}{w:World}(n:Nat){xs:List D}{vs:List Value}(h:D.hM O w xs vs):D.hM O w (xs.take n) (vs.take n):=by
 rw[D.jQ]at h⊢;refine⟨by simp[h.1],fun i x v hx hv=>?_⟩;rw[bX]at hx hv;split at hx
 ·rename_i hi;rw[ah hi]at hv;exact h.2 i x v hx hv
 ·cases hx
theorem vg{P:Program}{t:TypeId}{i:TypeInfo}{ag:Bool}(hi:P.info? t=some i)
 (hg:(match P.underlying t with|some (.struct _)|some (.array _ _)=>some true|some _=>some false|none=>none)=some ag)
 (w:World) (b o:Nat) (vs:List Value) (hc:∀j v,vs[j]?=some v->w.cell? ⟨b,o+j,none⟩=some v) (hl:vs.length=if ag then i.size else 1):
 (loadVar t ⟨b,o,none⟩).run P w=.ok (if ag then .agg vs.toArray else vs.headD undef) w:=by
 cases ag with
 |true=>
  have hu:∃d,P.underlying t=some d/\((∃f,d=.struct f)\/∃n e,d=.array n e):=by
   cases hq:P.underlying t with
   |none=>simp[hq]at hg
   |some d=>rw[hq]at hg;cases d<;>simp at hg<;>exact⟨_,rfl,by simp⟩
  obtain⟨d,hd,h2⟩:=hu;have hag:∀w,(isAgg t).run P w=.ok true w:=by
   intro w;rcases h2 with⟨f,rfl⟩|⟨n,e,rfl⟩<;>simp[isAgg,bf hd]
  simp only[aH]at hl;have hl':=run_loadCells_list (P:=P) w ⟨b,o,none⟩ vs (fun j v hj=>by rw[dH];exact hc j v hj);rw[hl]at hl';simp[loadVar,hag,Go.sizeOf,typeInfo,hi,hl']
 |false=>
  have hu:∃d,P.underlying t=some d/\(∀f,d≠ .struct f)/\∀n e,d≠ .array n e:=by
   cases hq:P.underlying t with
   |none=>simp[hq]at hg
   |some d=>rw[hq]at hg;cases d<;>simp at hg<;>exact⟨_,rfl,by simp,by simp⟩
  obtain⟨d,hd,h2,h3⟩:=hu;have hag:∀w,(isAgg t).run P w=.ok false w:=by
   intro w;simp only[isAgg,aV,bf hd,aJ];cases d<;>simp_all
  simp only[au,aG]at hl
  match vs,hl with
  |[v],_=>
   have:=hc 0 v rfl;simp only[de]at this;simp[loadVar,hag,this]
def Gm(P:Program)(t:TypeId):Option Bool:=
 match P.underlying t with
 |some (.struct _)|some (.array _ _)=>some true
 |some _=>some false
 |none=>none
inductive tB where
 |mv (x:Operand)
 |pick (c a b:Operand)
 |alloc (id t:Nat) (z:List D)
 |box (id t:Nat) (x:Operand)
 |Fh (id d t:Nat) (x:Operand)
 |wU (id d t:Nat) (z:List D)
 |build (z:List D) (parts:List (Nat×Nat×Operand))
 |lQ (id t e:Nat) (xs:List Operand)
 |zX (id t e:Nat) (xs:List Operand)
 |Ek (id t e:Nat) (xs:List Operand)
 |Ae (id t e bytes:Nat) (z:List D) (tok:Bool) (len cap:Operand)
 |Bc (id t e bytes:Nat) (z:List D) (tok:Bool) (len cap:Operand)
 |load (n:Nat) (ag:Bool) (p:Operand)
 |store (n:Nat) (p x:Operand)
 |mA (x:Operand)
 |bin (op:BinOp) (x y:Operand)
 |C7 (neg:Bool) (x y:Operand)
 |xC (neg:Bool) (x:Operand)
 |un (op:UnOp) (x:Operand)
 |conv (k:IntKind) (x:Operand)
 |z_ (f:Nat) (first cap:List Operand)
 |za (id t e bytes:Nat) (z:List D) (tok:Bool) (len cap:Operand)
 |slc (x:Operand) (e:Nat) (lo hi mx:Option Operand)
 |HF (p:Operand) (e n:Nat) (lo hi mx:Option Operand)
 |PT (off:Nat) (p:Operand)
 |tD (e:Nat) (x i:Operand)
 |G_ (e n:Nat) (p i:Operand)
 |len (x:Operand)
 |app (id t e bytes:Nat) (x y:Operand)
 |CD (id t e bytes:Nat) (x y:Operand)
 |iw (f:Nat) (args:List Operand)
 |ug (g:Operand) (args:List Operand)
 |ext (x:Operand) (i:Nat)
 |max (x y:Operand)
 |min (x y:Operand)
 |PU (x:Operand)
 |HG (x:Operand) (e:Nat) (h:Operand)
 |Ex (t:Nat) (x:Operand)
 |dead
structure iH where
 dst:Option Nat
 op:tB
 guard:Option (Option Nat×Bool)
inductive gH where
 |skip
 |gD (ops:List iH)
 |draw (ops:List iH) (after:List gv)
 |seq (a b:gH)
 |cond (c:Operand) (a b:gH)
 |block (id:Nat) (a:gH)
 |loop (a:gH)
 |exit (id:Nat)
 |ret
 |dead
 |ghost (a:gH)
 |U1 (g:Operand) (ps:List Nat) (a b:gH)
 |scope (a:gH)
 |label
def tB.erase:tB->tB
 |.zX id t e xs=>.lQ id t e xs
 |.Fh _ d t x=>.box d t x
 |.wU _ d t z=>.alloc d t z
 |.Ek id t e xs=>.lQ id t e xs
 |.Ae id t e b z tok l c=>.za id t e b z tok l c
 |.Bc id t e b z tok l c=>.za id t e b z tok l c
 |.CD id t e b x y=>.app id t e b x y
 |.HG x e h=>.slc x e none (some h) none
 |x=>x
def iH.erase(m:iH):iH:=⟨m.dst,m.op.erase,m.guard⟩
def gH.erase:gH->gH
 |.gD ms=>.gD (ms.map iH.erase)
 |.draw ms af=>.draw (ms.map iH.erase) af
 |.seq a b=>.seq a.erase b.erase
 |.cond c a b=>.cond c a.erase b.erase
 |.block id a=>.block id a.erase
 |.loop a=>.loop a.erase
 |.ghost a=>a.erase
 |.scope a=>.scope a.erase
 |.U1 g ps a b=>.U1 g ps a.erase b.erase
 |x=>x
def tw(P:Program)(t:Nat):Option (List D):=
 (P.info? t).bind fun i=>i.zero.bind fun z=>if z.cells.toList.all one&&z.cells.size==i.size then some (z.cells.toList.map cD)else none
def kH(P:Program)(t:Nat):Option Nat:=(P.info? t).map (·.size)
def xV(P:Program)(t:Nat):Option Nat:=(P.info? t).map (·.bytes)
def EJ(P:Program)(t:Nat):Option Nat:=match P.underlying t with|some (.slice e)=>some e|_=>none
def Xo:Value->Lit
 |.string s=>.string s.data.toList
 |.int q a=>.int q a
 |_=>.nil
def UG:Option IntKind->Value->Prop
 |none,.string s=>s.size<=maxLen
 |some q,.int q' a=>q'=q/\(Lit.int q a).wf=true
 |_,_=>False
def IY:D->Bool
 |.agg _=>true
 |_=>false
def partsOf(P:Program)(fs:Array Field)(p:Nat×Operand):Option (Nat×Nat×Operand):=
 (fs[p.1]?).bind fun(f:Field)=>(kH P f.type).map fun n=>(f.offset,n,p.2)
def uB(n:Nat)(ps:List (Nat×Operand)):Option (List Operand):=
 if ps.map (·.1)=List.range n then some (ps.map (·.2))else none
def isZero:Operand->Bool
 |.const (.int _ 0)=>true
 |_=>false
def v_:Operand->Bool
 |.const (.slice none 0 0)=>true
 |_=>false
def yq:Operand->Operand->Bool
 |.tmp a,.tmp b=>a==b
 |.const (.int j a),.const (.int k b)=>j==k&&a==b
 |_,_=>false
def enters(P:Program)(f:Nat):Bool:=
 match P.funcs[f]? with
 |some fn=>!(fn.name== "runtime.NumGoroutine")&&fn.body.isSome
 |none=>false
def m_(P:Program)(o:Oper):Option tB:=
 match o.op with
 |.move x|.assign x=>some (.mv x)
 |.pick c a b=>some (.pick c a b)
 |.alloc t=>o.dst.bind fun d=>(tw P t).map fun z=>.alloc d t z
 |.box t x=>o.dst.map fun d=>.box d t x
 |.build t ps=>
  match P.underlying t with
  |some (.struct fs)=>(tw P t).bind fun z=>
   if fs.toList.all (fun(f:Field)=>(kH P f.type).isSome)then(ps.toList.mapM (partsOf P fs)).map fun qs=>.build z qs else none
  |some (.array _ e)=>if ps.toList.isEmpty then(kH P e).bind fun _=>(tw P t).map fun z=>.build z []else none
  |_=>none
 |.buildSlice t n ps=>o.dst.bind fun d=>(EJ P t).bind fun e=>(kH P e).bind fun sz=>(tw P e).bind fun _=>
  if n*sz<=2^24/\0<sz then(uB n ps.toList).map fun xs=>.lQ d e sz xs else none
 |.load t p=>(kH P t).bind fun n=>(Gm P t).map fun ag=>.load (if ag then n else 1) ag p
 |.store t p x=>(kH P t).map fun n=>.store n p x
 |.nilCheck x=>some (.mA x)
 |.binOp op t x y _=>
  match P.underlying t with
  |some (.int _)|some .string=>some (.bin op x y)
  |some .bool=>match op with|.eql=>some (.C7 false x y)|.neq=>some (.C7 true x y)|_=>none
  |some (.slice _)=>if v_ y then(match op with|.eql=>some (.xC false x)|.neq=>some (.xC true x)|_=>none)else none
  |_=>none
 |.unOp op _ x=>some (.un op x)
 |.convert a b x=>
  match P.underlying a,P.underlying b with
  |some (.int _),some (.int k)=>some (.conv k x)
  |_,_=>none
 |.makeFunc (.func f) first cap=>some (.z_ f first.toList cap.toList)
 |.makeSlice t l c=>o.dst.bind fun d=>(EJ P t).bind fun e=>(kH P e).bind fun sz=>(xV P e).bind fun by'=>(tw P e).bind fun z=>
  if 0<sz then(if isZero l then some (.za d e sz by' z true l c)else if yq l c then some (.za d e sz by' z false l c)else none)else none
 |.slice t x lo hi mx=>
  match P.underlying t with
  |some (.slice e)=>(kH P e).map fun sz=>.slc x sz lo hi mx
  |some (.array n e)=>if n<2^62 then(kH P e).map fun sz=>.HF x sz n lo hi mx else none
  |_=>none
 |.fieldAddr t p f=>
  match P.underlying t with
  |some (.struct fs)=>(fs[f]?).bind fun fd=>(kH P fd.type).bind fun n=>if n=0 then none else some (.PT fd.offset p)
  |_=>none
 |.indexAddr t x i=>
  match P.underlying t with
  |some (.slice e)=>(kH P e).map fun sz=>.tD sz x i
  |some (.array n e)=>(kH P e).map fun sz=>.G_ sz n x i
  |_=>none
 |.extract x i=>some (.ext x i)
 |.call c=>
  match c.callee with
  |.value (.func f)=>if enters P f then some (.iw f c.args.toList)else none
  |.value g=>some (.ug g c.args.toList)
  |.builtin .len=>match(c.argTypes[0]?).bind P.underlying,c.args.toList with
   |some (.slice _),[x]=>some (.len x)
   |_,_=>none
  |.builtin .append=>match c.args.toList,c.argTypes[0]?,c.argTypes[1]? with
   |[x,y],some t,some u=>o.dst.bind fun d=>(EJ P t).bind fun e=>(EJ P u).bind fun _=>(kH P e).bind fun sz=>(xV P e).bind fun by'=>(tw P e).bind fun _=>
    if 0<sz/\0<by' then some (.app d e sz by' x y)else none
   |_,_,_=>none
  |.builtin .max=>match c.args.toList with|[x,y]=>some (.max x y)|_=>none
  |.builtin .min=>match c.args.toList with|[x,y]=>some (.min x y)|_=>none
  |_=>none
 |.panic x=>some (.PU x)
 |.makeInterface t x=>match P.underlying t with
  |some (.interface _)=>none
  |some _=>some (.Ex t x)
  |none=>none
 |_=>none
def ve(P:Program)(ops:Array Oper)(o:Oper):Option iH:=
 some {dst:=o.dst,op:=(m_ P o).getD .dead,guard:=o.guard.map fun(j,b)=>((ops[j]?).bind (·.dst),b)}
def oJ(P:Program):Code->Option gH
 |.skip=>some .skip
 |.region _ ops draw=>(ops.toList.mapM (ve P ops)).map fun ms=>
  if draw then .draw ms (ops.toList.map fun o=>(o.after.toList.filter (Region.binds .any)).map (·.on))else .gD ms
 |.seq a b=>(oJ P a).bind fun x=>(oJ P b).map fun y=>.seq x y
 |.cond c a b=>(oJ P a).bind fun x=>(oJ P b).map fun y=>.cond c x y
 |.block id a=>(oJ P a).map fun x=>.block id x
 |.loop a=>(oJ P a).map fun x=>.loop x
 |.exit id=>some (.exit id)
 |.ret=>some .ret
 |.rangeFunc g ps a b=>(oJ P a).bind fun x=>(oJ P b).map fun y=>.U1 g ps.toList x y
 |.scope a=>(oJ P a).map .scope
 |.label _=>some .label
 |_=>some .dead
def Br(b w:Bool)(A B:Prop):Prop:=if b=w then A else B
abbrev iD(n:Int):D:=.lit (.int .i64 n)
abbrev bD(b:Bool):D:=.lit (.bool b)
def qO:AV->Option (Nat×List D)
 |.d (.sl e _ xs)=>some (e,xs)
 |.own e _ xs=>some (e,xs)
 |_=>none
def zb:AV->Option Bool
 |.d (.sl _ (some b) _)=>some b
 |.nC .. =>some false
 |_=>none
def gJ:D->List D
 |.agg cs=>cs
 |x=>[x]
mutual
def AV.fin:AV->Option D
 |.d x=>some x
 |.own e _ xs=>some (.sl e none xs)
 |.agg cs=>(AV.mI cs).map .agg
 |.iB=>none
 |.ptr _ _=>none
 |.nC _ _ _ _=>none
 |.pv _=>none
 |.pa _=>none
 |.nk _=>none
 |.fn _ _ _=>none
 |.kG _ _ _=>none
 |.lT _ _ _=>none
 |.BS _ _=>none
 |.dp _=>none
 |.mp _=>none
def AV.mI:List AV->Option (List D)
 |[]=>some []
 |x::xs=>(AV.fin x).bind fun y=>(AV.mI xs).map (y::·)
end
def Ob.kg:Ob->Bool
 |.dead=>true
 |_=>false
def vK(k0 id:Nat)(env:List AV)(s:gL)(K:List AV->gL->(AV->AV)->Prop):Prop:=
 k0<=id/\if(sat s id).kg then K env s (fun x=>x)else K (AV.iI (gV id) env) (iL id s) (AV.kY (gV id))
def YL:BinOp->IntKind->IntKind->Prop
 |.shl,_,_=>True
 |.shr,_,_=>True
 |_,k,k'=>k=k'
def zW(k:IntKind)(a b:Int):Int:=k.wrap (BitVec.ofInt k.bits a &&& BitVec.ofInt k.bits b).toNat
def YM(k:IntKind)(a b:Int):Int:=k.wrap (BitVec.ofInt k.bits a ||| BitVec.ofInt k.bits b).toNat
def Mf(k:IntKind)(a b:Int):Int:=k.wrap (BitVec.ofInt k.bits a ^^^ BitVec.ofInt k.bits b).toNat
def JJ(k:IntKind)(a b:Int):Int:=k.wrap (BitVec.ofInt k.bits a &&& ~~~BitVec.ofInt k.bits b).toNat
def HB(k:IntKind)(a b:Int):Int:=k.wrap (a*2^(min b.toNat k.bits))
def Bn(k:IntKind)(a b:Int):Int:=a.fdiv (2^(min b.toNat k.bits))
def P7(op:BinOp)(x y:AV)(K:AV->Prop):Prop:=
 match x,y with
 |.d (.lit (.int k a)),.d (.lit (.int k' b))=>YL op k k'/\
  match op with
  |.add=>K (.d (.lit (.int k (k.wrap (a+b)))))
  |.sub=>K (.d (.lit (.int k (k.wrap (a-b)))))
  |.mul=>K (.d (.lit (.int k (k.wrap (a*b)))))
  |.quo=>b≠0/\K (.d (.lit (.int k (k.wrap (a.tdiv b)))))
  |.rem=>b≠0/\K (.d (.lit (.int k (a.tmod b))))
  |.eql=>K (.d (bD (a==b)))
  |.neq=>K (.d (bD (a != b)))
  |.lss=>K (.d (bD (decide (a<b))))
  |.leq=>K (.d (bD (decide (a<=b))))
  |.gtr=>K (.d (bD (decide (b<a))))
  |.geq=>K (.d (bD (decide (b<=a))))
  |.and=>K (.d (.lit (.int k (zW k a b))))
  |.or=>K (.d (.lit (.int k (YM k a b))))
  |.xor=>K (.d (.lit (.int k (Mf k a b))))
  |.andNot=>K (.d (.lit (.int k (JJ k a b))))
  |.shl=>0<=b/\K (.d (.lit (.int k (HB k a b))))
  |.shr=>0<=b/\K (.d (.lit (.int k (Bn k a b))))
 |.d (.lit (.string a)),.d (.lit (.string b))=>
  match op with
  |.add=>a.size+b.size<2^63/\K (.d (.lit (.string (a++b))))
  |.eql=>K (.d (bD (a.toList==b.toList)))
  |.neq=>K (.d (bD (!(a.toList==b.toList))))
  |_=>False
 |_,_=>False
def js:AV->Option Int
 |.d (.lit (.int _ n))=>some n
 |_=>none
def Fg(env:List AV)(dflt:Int):Option Operand->Option Int
 |none=>some dflt
 |some x=>js (ev env x)
def gN(P:Program)(f:Nat)(args:List AV)(s:gL)(k:Nat)(R:AV->gL->Prop):Prop:=
 ∀(C:Ctx)(vs:Array Value),C.s=s->C.k=k->Inv C C.β C.s C.w->AV.hM C.β (C.gP C.β C.s) C.w args vs.toList->
  Calls P f vs C.w fun e w'=>∃v x β' s',e=.returned v/\Inv C β' s' w'/\AV.ok β' (C.gP β' s') w' x v/\R x s'
def Ob.kY(ρ:Nat->Option Nat):Ob->Ob
 |.obj t cs=>.obj t (AV.iI ρ cs)
 |.pI t e n cs=>.pI t e n (AV.iI ρ cs)
 |.vf e n cs=>.vf e n (AV.iI ρ cs)
 |x=>x
def nJ:List fU->Nat->Option Nat
 |[],_=>none
 |(c,j)::r,i=>if i=c then some j else nJ r i
def oI:List fU->Nat->Option Nat
 |[],_=>none
 |(c,j)::r,i=>if i=j then some c else oI r i
def nD(s:gL)(pr mp:List fU):gL:=mp.map fun(c,j)=>(c,(sat s j).kY (oI pr))
def tj(s s':gL)(mp all:List fU):gL:=
 match mp with
 |[]=>s
 |(c,j)::r=>tj (sset s j ((sat s' c).kY (nJ all))) s' r all
def JZ(P:Program)(k0 f:Nat)(args:List AV)(env:List AV)(s:gL)(K:AV->List AV->gL->Prop):Prop:=
 ∃(pr nw:List fU)(R:AV->gL->Prop),
  pr.map (·.1)=List.range pr.length/\((pr++nw).map (·.1)).Nodup/\((pr++nw).map (·.2)).Nodup/\
  (∀p∈nw,sat s p.2=.dead/\k0<=p.2)/\
  gN P f (args.map fun x=>x.kY (oI pr)) (nD s pr pr) pr.length R/\
  ∀x s',R x s'->K (x.kY (nJ (pr++nw))) env (tj s s' (pr++nw) (pr++nw))
def Ce(P:Program)(k0 f:Nat)(args:List AV)(env:List AV)(s:gL)(K:AV->List AV->gL->Prop):Prop:=
 ∀(C:Ctx)(β:gU)(a:Act)(w:World)(vs:Array Value),C.k=k0->St C β env s a w->AV.hM β (C.gP β s) w args vs.toList->
  Calls P f vs w fun e w'=>∃v x β' env' s',e=.returned v/\St C β' env' s' a w'/\AV.ok β' (C.gP β' s') w' x v/\K x env' s'
def QT(e:Nat)(x i:AV)(K:AV->Prop):Prop:=
 match js i with
 |none=>False
 |some n=>match x with
  |.nC e' id off len=>e'=e/\0<=n/\n<len/\K (.ptr id (off+n.toNat*e))
  |.kG e' id m=>e'=e/\0<=n/\n<m/\K (.lT id m (n.toNat*e))
  |x=>match qO x with
   |some (e',xs)=>e'=e/\0<=n/\n<xs.length/\K (.pv (gJ (xs.getD n.toNat .any)))
   |none=>False
def DC:AV->Bool
 |.dp _=>true
 |_=>false
def yC(cs:List AV):Bool:=cs.all fun x=>!DC x
def rm(n:Nat)(ag:Bool)(p:AV)(s:gL)(K:AV->Prop):Prop:=
 match p with
 |.ptr id off=>match sat s id with
  |.obj _ cs=>off+n<=cs.length/\K (if ag then AV.mk ((cs.drop off).take n)else cs.getD off .iB)
  |_=>False
 |.pv cs=>n<=cs.length/\K (.d (if ag then .agg (cs.take n)else cs.headD .any))
 |.pa cs=>ag=false/\n=1/\1<=cs.length/\K (cs.headD .iB)
 |.lT id k off=>match sat s id with
  |.iM _ _ m cs=>m=k/\off+n<=cs.length/\K (.d (if ag then .agg ((cs.drop off).take n)else cs.getD off .any))
  |.vf _ m cs=>m=k/\off+n<=cs.length/\ag=false/\n=1/\DC (cs.getD off .iB)=false/\K (cs.getD off .iB)
  |_=>False
 |_=>False
def FW(n:Nat)(p x:AV)(s:gL)(K:gL->Prop):Prop:=
 match p with
 |.ptr id off=>match sat s id with
  |.obj t cs=>match x.cells with
   |some xs=>xs.length=n/\off+n<=cs.length/\K (sset s id (.obj t (cs.take off++xs++cs.drop (off+n))))
   |none=>False
  |_=>False
 |.lT id k off=>match sat s id with
  |.iM t e m cs=>match x.fin with
   |some d=>m=k/\(gJ d).length=n/\off+n<=cs.length/\K (sset s id (.iM t e m (cs.take off++gJ d++cs.drop (off+n))))
   |none=>False
  |.vf e m cs=>match x.cells with
   |some xs=>m=k/\xs.length=n/\0<n/\off+n<=cs.length/\yC xs=true/\K (sset s id (.vf e m (cs.take off++xs++cs.drop (off+n))))
   |none=>False
  |_=>False
 |_=>False
def pz(env:List AV):List AV->List (Nat×Nat×Operand)->Option (List AV)
 |cs,[]=>some cs
 |cs,(off,n,x)::r=>match(ev env x).cells with
  |some xs=>if xs.length=n/\off+n<=cs.length then pz env (cs.take off++xs++cs.drop (off+n)) r else none
  |none=>none
def AV.CZ:AV->Option (List AV)
 |.d (.agg cs)=>some (cs.map .d)
 |.agg cs=>some cs
 |_=>none
def RB(x:AV)(lo hi:Option Int)(K:AV->Prop):Prop:=
 match qO x,lo,hi with
 |some (e,xs),some l,some h=>0<=l/\l<=h/\h<=xs.length/\K (.d (.sl e (zb x) ((xs.take h.toNat).drop l.toNat)))
 |_,_,_=>False
def KP(id t e bytes k0:Nat)(x y:AV)(env:List AV)(s:gL)(K:AV->List AV->gL->Prop):Prop:=
 match qO y with
 |none=>False
 |some (e2,ys)=>(ys=[]\/e2=e)/\
  match x with
  |.own e' j xs=>e'=e/\sat s j=.tok t e xs.length/\(xs.length+ys.length)*bytes<=2^47/\
   K (.own e j (xs++ys)) env (sset s j (.tok t e (xs.length+ys.length)))
  |.kG e' j n=>e'=e/\(match sat s j with
   |.iM t' e2 m cs=>t'=t/\e2=e/\m=n/\(n+ys.length)*bytes<=2^47/\
    K (.kG e j (n+ys.length)) env (sset s j (.iM t e (n+ys.length) (cs++ys.flatMap gJ)))
   |_=>False)
  |.d (.sl _ (some true) [])=>ys.length*bytes<=2^47/\vK k0 id env s fun env s _=>K (.own e id ys) env (sset s id (.tok t e ys.length))
  |.BS e' xs=>e'=e/\(xs.length+ys.length)*bytes<=2^47/\K (.d (.sl e none (xs++ys))) env s
  |_=>False
def Gs(id t e bytes k0:Nat)(x y:AV)(env:List AV)(s:gL)(K:AV->List AV->gL->Prop):Prop:=
 match qO y,x with
 |some (e2,ys),.d (.sl _ (some true) [])=>(ys=[]\/e2=e)/\ys.length*bytes<=2^47/\
  vK k0 id env s fun env s _=>K (.kG e id ys.length) env (sset s id (.iM t e ys.length (ys.flatMap gJ)))
 |_,x=>KP id t e bytes k0 x y env s K
def AV.flat(e:Nat):List AV->Option (List AV)
 |[]=>some []
 |x::xs=>match x.cells,AV.flat e xs with
  |some c,some r=>if c.length=e then some (c++r)else none
  |_,_=>none
def MM(id t e k0:Nat)(ds:Option (List D))(cs:Option (List AV))(env:List AV)(s:gL)(K:AV->List AV->gL->Prop):Prop:=
 match ds,cs with
 |some ds,some cs=>(∀d∈ds,(gJ d).length=e)/\yC cs=true/\k0<=id/\(if(sat s id).kg then K (.own e id ds) env (sset s id (.pI t e ds.length cs))
  else K (.own e id ds) (AV.iI (gV id) env) (sset (iL id s) id (.pI t e ds.length (cs.map (AV.kY (gV id))))))
 |_,_=>False
def NG(a b:Nat):Nat:=min a b
def Xl(n e:Nat)(cs:List D):List D:=cs.take (n*e)
def Ro(k0:Nat)(e e' j n:Nat)(h:Int)(env:List AV)(s:gL)(K:AV->List AV->gL->Prop):Ob->Prop
 |.iM t e2 m cs=>e'=e/\e2=e/\n=m/\0<=h/\h<=m/\k0<=j/\K (.kG e j (NG h.toNat m)) (AV.iI (gV j) env) (sset (iL j s) j (.iM t e (NG h.toNat m) (Xl h.toNat e cs)))
 |_=>False
def qo(P:Program)(k0:Nat)(m:tB)(env:List AV)(s:gL)(K:AV->List AV->gL->Prop):Prop:=
 match m with
 |.mv x=>K (ev env x) env s
 |.pick c a b=>match ev env c with
  |.d (.lit (.bool t))=>Br t true (K (ev env a) env s) (K (ev env b) env s)
  |_=>False
 |.alloc id t z=>vK k0 id env s fun env s _=>K (.ptr id 0) env (sset s id (.obj t (z.map .d)))
 |.wU id _ t z=>vK k0 id env s fun env s _=>K (.ptr id 0) env (sset s id (.obj t (z.map .d)))
 |.Fh id _ t x=>match(ev env x).cells with
  |some cs=>vK k0 id env s fun env' s' f=>K (.ptr id 0) env' (sset s' id (.obj t (cs.map f)))
  |none=>False
 |.box id t x=>match(ev env x).cells with
  |some cs=>vK k0 id env s fun env' s' f=>K (.ptr id 0) env' (sset s' id (.obj t (cs.map f)))
  |none=>False
 |.build z ps=>match pz env (z.map .d) ps with
  |some cs=>K (AV.mk cs) env s
  |none=>False
 |.lQ id t e xs=>match AV.mI (xs.map (ev env))with
  |some ds=>(∀d∈ds,(gJ d).length=e)/\vK k0 id env s fun env s _=>K (.own e id ds) env (sset s id (.tok t e ds.length))
  |none=>False
 |.zX id t e xs=>match AV.mI (xs.map (ev env))with
  |some ds=>(∀d∈ds,(gJ d).length=e)/\vK k0 id env s fun env s _=>K (.kG e id ds.length) env (sset s id (.iM t e ds.length (ds.flatMap gJ)))
  |none=>False
 |.Ek id t e xs=>MM id t e k0 (AV.mI (xs.map (ev env))) (AV.flat e (xs.map (ev env))) env s K
 |.load n ag p=>rm n ag (ev env p) s fun x=>K x env s
 |.store n p x=>FW n (ev env p) (ev env x) s fun s=>K .iB env s
 |.mA x=>match ev env x with
  |.ptr id off=>K (.ptr id off) env s
  |.pv cs=>K (.pv cs) env s
  |.pa cs=>K (.pa cs) env s
  |.fn f a b=>K (.fn f a b) env s
  |.lT id m off=>K (.lT id m off) env s
  |_=>False
 |.bin op x y=>P7 op (ev env x) (ev env y) fun r=>K r env s
 |.C7 neg x y=>match ev env x,ev env y with
  |.d (.lit (.bool a)),.d (.lit (.bool b))=>K (.d (bD (if neg then a != b else a==b))) env s
  |_,_=>False
 |.xC neg x=>match zb (ev env x)with
  |some b=>K (.d (bD (if neg then !b else b))) env s
  |none=>match qO (ev env x)with
   |some (_,xs)=>(xs=[]->K (.d (bD (if neg then !true else true))) env s)/\K (.d (bD (if neg then !false else false))) env s
   |none=>False
 |.un op x=>match op,ev env x with
  |.not,.d (.lit (.bool b))=>K (.d (bD (!b))) env s
  |.neg,.d (.lit (.int k n))=>K (.d (.lit (.int k (k.wrap (0-n))))) env s
  |_,_=>False
 |.conv k x=>match ev env x with
  |.d (.lit (.int _ n))=>K (.d (.lit (.int k (k.wrap n)))) env s
  |_=>False
 |.z_ f first cap=>K (.fn f (first.map (ev env)) (cap.map (ev env))) env s
 |.Ae _ _ e bytes z tok len cap=>match js (ev env len),js (ev env cap),z with
  |some l,some c,[zd]=>e=1/\tok=false/\0<=l/\l<=c/\bytes*c<=2^48/\c<2^62/\K (.d (.sl 1 none (List.replicate l.toNat zd))) env s
  |_,_,_=>False
 |.Bc id _ e bytes z tok len cap=>match js (ev env len),js (ev env cap)with
  |some l,some c=>tok=false/\0<e/\0<=l/\l<=c/\bytes*c<=2^48/\c<2^62/\k0<=id/\(sat s id).kg=true/\K (.kG e id l.toNat) env (sset s id (.vf e l.toNat ((List.replicate l.toNat (z.map .d)).flatten)))
  |_,_=>False
 |.za id t e bytes z tok len cap=>match js (ev env len),js (ev env cap)with
  |some l,some c=>0<=l/\l<=c/\bytes*c<=2^48/\c<2^62/\vK k0 id env s fun env s _=>
   if tok then K (.own e id []) env (sset s id (.tok t e 0))
   else K (.nC e id 0 l.toNat) env (sset s id (.obj t ((List.replicate l.toNat (z.map .d)).flatten)))
  |_,_=>False
 |.slc x e lo hi mx=>match qO (ev env x)with
  |some (e',xs)=>match mx with
   |none=>(xs=[]\/e'=e)/\RB (ev env x) (Fg env 0 lo) (Fg env xs.length hi) fun r=>K r env s
   |some m=>lo=none/\∃hh h,hi=some hh/\js (ev env hh)=some h/\js (ev env m)=some h/\(xs=[]\/e'=e)/\0<=h/\h<=xs.length/\K (.BS e' (xs.take h.toNat)) env s
  |none=>False
 |.HF p e n lo hi mx=>match ev env p,lo,hi,mx with
  |.ptr id off,none,none,none=>K (.nC e id off n) env s
  |.ptr id off,none,some h,none=>match js (ev env h)with
   |some h=>0<=h/\h<=n/\K (.nC e id off h.toNat) env s
   |none=>False
  |_,_,_,_=>False
 |.PT off p=>match ev env p with
  |.ptr id o=>K (.ptr id (o+off)) env s
  |.pv cs=>K (.pv (cs.drop off)) env s
  |.pa cs=>K (.pa (cs.drop off)) env s
  |.lT id k o=>K (.lT id k (o+off)) env s
  |_=>False
 |.tD e x i=>QT e (ev env x) (ev env i) fun r=>K r env s
 |.G_ e n p i=>match js (ev env i),ev env p with
  |some j,.ptr id off=>0<=j/\j<n/\K (.ptr id (off+j.toNat*e)) env s
  |some j,.pv cs=>0<=j/\j<n/\K (.pv (cs.drop (j.toNat*e))) env s
  |_,_=>False
 |.len x=>match ev env x with
  |.nC _ _ _ n=>K (.d (iD n)) env s
  |.kG _ _ n=>K (.d (iD n)) env s
  |x=>match qO x with
   |some (_,xs)=>K (.d (iD xs.length)) env s
   |none=>False
 |.app id t e bytes x y=>KP id t e bytes k0 (ev env x) (ev env y) env s K
 |.CD id t e bytes x y=>Gs id t e bytes k0 (ev env x) (ev env y) env s K
 |.iw f args=>Ce P k0 f (args.map (ev env)) env s K
 |.ug g args=>match ev env g with
  |.fn f first cap=>enters P f=true/\Ce P k0 f (first++args.map (ev env)++cap) env s K
  |_=>False
 |.ext x i=>match ev env x with
  |.nk cs=>i<cs.length/\K (cs.getD i .iB) env s
  |_=>False
 |.max x y=>match ev env x,ev env y with
  |.d (.lit (.int k a)),.d (.lit (.int k' b))=>k=k'/\K (.d (.lit (.int k (if b>a then b else a)))) env s
  |_,_=>False
 |.min x y=>match ev env x,ev env y with
  |.d (.lit (.int k a)),.d (.lit (.int k' b))=>k=k'/\K (.d (.lit (.int k (if b<a then b else a)))) env s
  |_,_=>False
 |.PU _=>False
 |.HG x e y=>match ev env x,js (ev env y)with
  |.kG e' j n,some h=>Ro k0 e e' j n h env s K (sat s j)
  |_,_=>False
 |.Ex t x=>ev env x=.d (.agg [])/\K (.d (.lit (.iface t (.agg #[])))) env s
 |.dead=>False
theorem Bl{O:Own}{w:World}{b e:Nat}:∀{xs:List D}{o i:Nat}{x:D},D.row O w b o e xs->xs[i]?=some x->
 ∃vs,vs.length=e/\kN O w b (o+i*e) vs/\D.Fj O w x vs
 |[],_,_,_=>fun _ h=>by simp at h
 |y::ys,o,0,x=>fun h hx=>by
  rw[D.ni]at h;simp at hx;subst hx;obtain⟨vs,h1,h2,h3⟩:=h.1;exact⟨vs,h1,by simpa using h2,h3⟩
 |y::ys,o,i+1,x=>fun h hx=>by
  rw[D.ni]at h;obtain⟨vs,h1,h2,h3⟩:=Bl h.2 (by simpa using hx);refine⟨vs,h1,?_,h3⟩;have:o+e+i*e=o+(i+1)*e:=by rw[bH];omega
  rwa [this]at h2
theorem J1{O:Own}{w:World}{b o:Nat}{x:D}{vs:List Value}(h:D.Fj O w x vs)(hc:kN O w b o vs):D.hM O w (gJ x) vs:=by
 cases x with
 |agg cs=>exact h
 |any=>obtain⟨v,rfl,h⟩:=h;simp only[gJ,D.hM];exact⟨v,[],rfl,(hc 0 v rfl).2.2,h,rfl⟩
 |lit u=>obtain⟨v,rfl,h⟩:=h;simp only[gJ,D.hM];exact⟨v,[],rfl,(hc 0 v rfl).2.2,h,rfl⟩
 |sl e nl ys=>obtain⟨v,rfl,h⟩:=h;simp only[gJ,D.hM];exact⟨v,[],rfl,(hc 0 v rfl).2.2,h,rfl⟩
theorem Kn{O:Own}{w:World}{x:D}{vs:List Value}(h:D.hM O w (gJ x) vs):D.Fj O w x vs:=by
 cases x with
 |agg cs=>exact h
 |any=>simp only[gJ,D.hM]at h;obtain⟨v,r,rfl,_,h,rfl⟩:=h;exact⟨v,rfl,h⟩
 |lit u=>simp only[gJ,D.hM]at h;obtain⟨v,r,rfl,_,h,rfl⟩:=h;exact⟨v,rfl,h⟩
 |sl e nl ys=>simp only[gJ,D.hM]at h;obtain⟨v,r,rfl,_,h,rfl⟩:=h;exact⟨v,rfl,h⟩
theorem zn{β:gU}{O:Own}{w:World}{x:AV}{v:Value}{e:Nat}{xs:List D}(h:AV.ok β O w x v)(hs:qO x=some (e,xs)):
 ∃a cap,v=.slice a xs.length cap/\JH xs.length cap/\(∀b,zb x=some b->KL (some b) a cap)/\(xs=[]\/∃b o,a=some ⟨b,o,none⟩/\D.row O w b o e xs):=by
 cases x with
 |d x=>
  cases x with
  |sl e' nl ys=>
   simp only[qO,aR,Prod.mk.injEq]at hs;obtain⟨rfl,rfl⟩:=hs;simp only[AV.ok,D.ok]at h;obtain⟨a,cap,h1,h2,h3,h4⟩:=h;refine⟨a,cap,h1,h2,fun b hb=>?_,h4⟩;cases nl with
   |some b'=>simp only[zb,aR]at hb;subst hb;exact h3
   |none=>simp[zb]at hb
  |any=>simp[qO]at hs
  |lit u=>simp[qO]at hs
  |agg cs=>simp[qO]at hs
 |own e' id ys=>
  simp only[qO,aR,Prod.mk.injEq]at hs;obtain⟨rfl,rfl⟩:=hs;simp only[AV.ok,D.ok]at h;obtain⟨⟨a,cap,h1,h2,_,h4⟩,_⟩:=h;refine⟨a,cap,h1,h2,fun b hb=>?_,h4⟩;simp[zb]at hb
 |iB=>simp[qO]at hs
 |ptr id off=>simp[qO]at hs
 |nC e id off len=>simp[qO]at hs
 |pv cs=>simp[qO]at hs
 |pa cs=>simp[qO]at hs
 |agg cs=>simp[qO]at hs
 |nk cs=>simp[qO]at hs
 |fn f a b=>simp[qO]at hs
 |kG e id n=>simp[qO]at hs
 |lT id k off=>simp[qO]at hs
 |BS e xs=>simp[qO]at hs
 |dp d=>simp[qO]at hs
 |mp id=>simp[qO]at hs
theorem UU{β:gU}{O:Own}{w:World}{x:AV}{v:Value}{t:Bool}(h:AV.ok β O w x v)(hn:zb x=some t):
 ∃a n cap,v=.slice a n cap/\a.isNone=t:=by
 cases hs:qO x with
 |some p=>
  obtain⟨e,xs⟩:=p;obtain⟨a,cap,h1,_,h3,_⟩:=zn h hs;refine⟨a,_,cap,h1,?_⟩;have:=h3 t hn;cases t with
  |true=>rw[this.1];rfl
  |false=>cases a with
   |none=>exact absurd rfl this
   |some a=>rfl
 |none=>
  cases x with
  |nC e id off len=>
   simp only[zb,aR]at hn;subst hn;simp only[AV.ok]at h;obtain⟨b,cap,_,_,rfl⟩:=h;exact⟨_,_,_,rfl,rfl⟩
  |d x=>cases x<;>simp_all[qO,zb]
  |own e id xs=>simp[qO]at hs
  |iB=>simp[zb]at hn
  |ptr id off=>simp[zb]at hn
  |pv cs=>simp[zb]at hn
  |pa cs=>simp[zb]at hn
  |agg cs=>simp[zb]at hn
  |nk cs=>simp[zb]at hn
  |fn f a b=>simp[zb]at hn
  |kG e id n=>simp[zb]at hn
  |lT id k off=>simp[zb]at hn
  |BS e xs=>simp[zb]at hn
  |dp d=>simp[zb]at hn
  |mp id=>simp[zb]at hn
theorem tS{β:gU}{O:Own}{w:World}{x:AV}{v:Value}{n:Int}(h:AV.ok β O w x v)(hn:js x=some n):∃k,v=.int k n:=by
 cases x with
 |d x=>
  cases x with
  |lit u=>
   simp only[AV.ok,D.ok]at h;obtain⟨h,_⟩:=h;subst h;cases v<;>simp[js]at hn
   subst hn;exact⟨_,rfl⟩
  |any=>simp[js]at hn
  |sl e nl xs=>simp[js]at hn
  |agg cs=>simp[js]at hn
 |own e id xs=>simp[js]at hn
 |nC e id off len=>simp[js]at hn
 |iB=>simp[js]at hn
 |ptr id off=>simp[js]at hn
 |pv cs=>simp[js]at hn
 |pa cs=>simp[js]at hn
 |agg cs=>simp[js]at hn
 |nk cs=>simp[js]at hn
 |fn f a b=>simp[js]at hn
 |kG e id n=>simp[js]at hn
 |lT id k off=>simp[js]at hn
 |BS e xs=>simp[js]at hn
 |dp d=>simp[js]at hn
 |mp id=>simp[js]at hn
theorem qH{β:gU}{O:Own}{w:World}{u v:Value}(h:AV.ok β O w (.d (.lit u)) v):v=u:=by simp only[AV.ok,D.ok]at h;exact h.1
theorem wh{β:gU}{O:Own}{w:World}{u:Value}(h:one u=true):AV.ok β O w (.d (.lit u)) u:=by simp[AV.ok,D.ok,h]
section
variable{P:Program}{C:Ctx}{o:Oper}{env:List AV}{s:gL}{k:List AV->gL->Prop}
theorem Yw{x:Operand}(hop:o.op=.move x\/o.op=.assign x)(hk:k (iq o.dst env (ev env x)) s):nB P C o env s k:=
 .pure (fun β a w hst=>⟨a.eval x,by rcases hop with h|h<;>simp[execOp,h],hst.ev x⟩) hk
theorem U_{c x y:Operand}(hop:o.op=.pick c x y){t:Bool}(hc:ev env c=.d (.lit (.bool t)))
 (hk:Br t true (k (iq o.dst env (ev env x)) s) (k (iq o.dst env (ev env y)) s)):nB P C o env s k:=by
 unfold Br at hk;refine .value fun β a w hst=>?_
 have h1:=hst.ev c;rw[hc]at h1;have h1:=qH h1;cases t with
 |true=>exact⟨a.eval x,w,β,env,s,_,by simp[execOp,hop,h1,asBool],hst,hst.ev x,by simpa using hk⟩
 |false=>exact⟨a.eval y,w,β,env,s,_,by simp[execOp,hop,h1,asBool],hst,hst.ev y,by simpa using hk⟩
theorem n_{t:Nat}{z:List D}(h:tw P t=some z):∃i u,P.info? t=some i/\i.zero=some u/\u.cells.size=i.size/\
 (∀v∈u.cells.toList,one v=true)/\z=u.cells.toList.map cD:=by
 unfold tw at h;cases hi:P.info? t with
 |none=>simp[hi]at h
 |some i=>
  cases hz:i.zero with
  |none=>simp[hi,hz]at h
  |some u=>
   simp only[hi,hz,aa]at h;split at h
   ·rename_i hc;simp only[bF,cN]at hc;cases h;exact⟨i,u,rfl,hz,hc.2,fun v hv=>by simpa using cH.1 hc.1 v hv,rfl⟩
   ·cases h
theorem J5{β:gU}{O:Own}{w:World}{ds:List D}{vs:List Value}(h:D.hM O w ds vs):AV.hM β O w (ds.map .d) vs:=by
 rw[D.jQ]at h;refine AV.jQ.2 ⟨by simp[h.1],fun i x v hx hv=>?_⟩;rw[bq]at hx;cases hz:ds[i]? with
 |none=>rw[hz]at hx;cases hx
 |some z=>rw[hz]at hx;cases hx;exact(h.2 i z v hz hv).2
theorem qK{id:Nat}{K:List AV->gL->(AV->AV)->Prop}(h:vK C.k id env s K){β:gU}{a:Act}{w:World}(hst:St C β env s a w):
 ∃β' env' s' f,St C β' env' s' a w/\sat s' id=.dead/\K env' s' f/\(∀x v,AV.ok β (C.gP β s) w x v->AV.ok β' (C.gP β' s') w (f x) v)/\
  ∀b o,C.gP β' s' b o->C.gP β s b o:=by
 unfold vK at h;obtain⟨h1,h2⟩:=h;split at h2
 ·rename_i hd;refine⟨β,env,s,_,hst,?_,h2,fun x v hx=>hx,fun _ _ h=>h⟩;cases hs:sat s id<;>simp_all[Ob.kg]
 ·exact⟨_,_,_,_,hst.kill id h1,by rw[tg];simp,h2,fun x v hx=>wO hx,fun _ _ h=>h.imp (fun x=>x) wj⟩
theorem FK{β β':gU}{O O':Own}{w:World}{f:AV->AV}(hf:∀x v,AV.ok β O w x v->AV.ok β' O' w (f x) v){xs:List AV}{vs:List Value}
 (h:AV.hM β O w xs vs):AV.hM β' O' w (xs.map f) vs:=by
 rw[AV.jQ]at h⊢;refine⟨by simpa using h.1,fun i x v hx hv=>?_⟩;rw[bq]at hx;cases hz:xs[i]? with
 |none=>rw[hz]at hx;cases hx
 |some z=>rw[hz]at hx;cases hx;exact hf _ _ (h.2 i z v hz hv)
theorem Ku{d t:Nat}{z:List D}(hop:o.op=.alloc t)(hz:tw P t=some z)
 (hk:vK C.k d env s fun env s _=>k (iq o.dst env (.ptr d 0)) (sset s d (.obj t (z.map .d)))):nB P C o env s k:=by
 refine .value fun β a w hst=>?_
 obtain⟨i,u,hi,hu,hsz,h1,rfl⟩:=n_ hz;obtain⟨β1,env1,s1,f,hst1,hd,hk1,hf,_⟩:=qK hk hst;obtain⟨β2,hst2,m,hp⟩:=hst1.newObj (id:=d) hd (c:=u.cells) (t:=t) (cs:=(u.cells.toList.map cD).map .d) h1 (J5 (BE _ h1));exact⟨_,_,β2,env1,_,.ptr d 0,by simp[execOp,hop,Instr.alloc,zeroValue,typeInfo,hi,hu,newVar,newRow],hst2,hp,hk1⟩
theorem Yq{d t:Nat}{x:Operand}(hop:o.op=.box t x){cs:List AV}(hc:(ev env x).cells=some cs)
 (hk:vK C.k d env s fun env s f=>k (iq o.dst env (.ptr d 0)) (sset s d (.obj t (cs.map f)))):nB P C o env s k:=by
 refine .value fun β a w hst=>?_
 obtain⟨h0,h1⟩:=xy (hst.ev x) hc;obtain⟨β1,env1,s1,f,hst1,hd,hk1,hf,_⟩:=qK hk hst;obtain⟨β2,hst2,m,hp⟩:=hst1.newObj (id:=d) hd (c:=(a.eval x).cells) (t:=t) (cs:=cs.map f) h1 (FK hf h0);exact⟨_,_,β2,env1,_,.ptr d 0,by simp[execOp,hop,Instr.box,newVar,newRow],hst2,hp,hk1⟩
theorem U3{d t:Nat}{x:Operand}(hop:o.op=.box t x){cs:List AV}(hc:(ev env x).cells=some cs)
 (hk:vK C.k d env s fun env s f=>k (iq o.dst env (.ptr d 0)) (sset s d (.obj t (cs.map f)))):nB P C o env s k:=by
 refine .value fun β a w hst=>?_
 obtain⟨h0,h1⟩:=xy (hst.ev x) hc;obtain⟨β1,env1,s1,f,hst1,hd,hk1,hf,_⟩:=qK hk hst;obtain⟨β2,hst2,m,hp⟩:=hst1.newObj (id:=d) hd (c:=(a.eval x).cells) (t:=t) (cs:=cs.map f) h1 (FK hf h0);exact⟨_,_,β2,env1,_,.ptr d 0,by simp[execOp,hop,Instr.box,newVar,newRow],hst2,hp,hk1⟩
theorem yK{t:Nat}{ag:Bool}(h:Gm P t=some ag):
 (match P.underlying t with|some (.struct _)|some (.array _ _)=>some true|some _=>some false|none=>none)=some ag:=h
theorem Mz{β:gU}{O:Own}{w:World}:∀{cs:List AV}{us:List Value}{bs:List Nat}{j:Nat},vp β O w cs us bs->j<cs.length->∃x v,cs[j]?=some x/\us[j]?=some v/\∃b,NX β O w x v b
 |[],_,_,_,_,h=>by simp at h
 |x::xs,us,bs,j,h,hj=>by
  simp only[vp]at h;obtain⟨v,r,c1,c2,rfl,rfl,h3,h4⟩:=h;cases j with
  |zero=>exact⟨x,v,rfl,rfl,c1,h3⟩
  |succ j=>
   obtain⟨y,u,h5,h6,h7⟩:=Mz h4 (by simpa using hj);exact⟨y,u,by simpa using h5,by simpa using h6,h7⟩
theorem VN{β:gU}{O:Own}{w:World}{x:AV}{v:Value}{b:List Nat}(hx:DC x=false)(h:NX β O w x v b):AV.ok β O w x v:=by
 cases x with
 |dp d=>cases hx
 |_=>exact h.1
theorem EW{t n:Nat}{ag:Bool}(hn:kH P t=some n)(hg':Gm P t=some ag){β:gU}{a:Act}{w:World}(hst:St C β env s a w)
 {px:AV} {pval:Value} (hp:AV.ok β (C.gP β s) w px pval) {K:AV->Prop} (hk:rm (if ag then n else 1) ag px s K):
 ∃v x,(Instr.loadAt t pval).run P w=.ok v w/\AV.ok β (C.gP β s) w x v/\K x:=by
 obtain⟨i,hi,hin⟩:∃i,P.info? t=some i/\i.size=n:=by
  unfold kH at hn;cases hq:P.info? t with
  |none=>simp[hq]at hn
  |some i=>exact⟨i,rfl,by simpa[hq]using hn⟩
 generalize hN:(if ag then n else 1)=N at hk;cases px with
 |ptr id off=>
  simp only[AV.ok]at hp;obtain⟨b,hb,hv⟩:=hp;simp only[rm]at hk;have ho:=hst.inv.obs id;cases hs:sat s id with
  |dead=>simp[hs]at hk
  |tok t' e' n'=>simp[hs]at hk
  |pI t' e' n' cs=>simp[hs]at hk
  |vf e' n' cs=>simp[hs]at hk
  |mp P k es=>simp[hs]at hk
  |iM t' e' n' cs=>simp[hs]at hk
  |obj t' cs=>
   rw[hs]at ho;simp only[hs]at hk;obtain⟨hlen,hk⟩:=hk;obtain⟨b',vs,hb',hh,h1,h2⟩:=ho;rw[hb]at hb';cases hb';obtain⟨pre,rest,hvs,h2⟩:=h2;have hl:=AV.iy h2;have hseg:=zg N (ze off h2);have hpre:(vs.toList.drop off).take N=(pre.drop off).take N:=by rw[hvs,cz gB,cw (by simp;omega)]
   rw[<-hpre]at hseg;have hcell:∀j v,((vs.toList.drop off).take N)[j]?=some v->w.cell? ⟨b,off+j,none⟩=some v:=by
    intro j v hj;rw[bX]at hj;split at hj
    ·rw[cF]at hj;simp only[World.cell?,hh,cE,au,aG];simpa using hj
    ·cases hj
   have hlen2:((vs.toList.drop off).take N).length=N:=by rw[hpre];simp;omega
   have hrun:=vg (P:=P) hi (yK hg') w b off _ hcell (by rw[hlen2,<-hN,hin]);refine⟨if ag then .agg ((vs.toList.drop off).take N).toArray else((vs.toList.drop off).take N).headD undef,_,?_,?_,hk⟩
   ·simp only[Instr.loadAt,hv,Instr.sureAddr,aV,bl,aJ,hrun]
   ·cases ag with
    |true=>
     simp only[aH];have:∀u∈((vs.toList.drop off).take N).toArray.toList,one u=true:=by
      intro u hu;exact h1 u (cI (bE (by simpa using hu)))
     exact Oh (vs:=((vs.toList.drop off).take N).toArray) (by simpa using hseg) this
    |false=>
     simp only[au,aG]at hN⊢;subst hN;have hltp:off<pre.length:=by omega
     have hlt:off<vs.toList.length:=by rw[hvs,aj];omega
     have hlt2:off<cs.length:=by omega
     have e1:((vs.toList.drop off).take 1).headD undef=vs.toList[off]:=by rw[aK hlt];rfl
     rw[e1,av,aB hlt2];refine(AV.jQ.1 h2).2 off _ _ (aB hlt2) ?_;rw[<-aB hlt,hvs,aU hltp]
 |pv cs=>
  simp only[AV.ok]at hp;obtain⟨b,off,vs,hv,hc,h2⟩:=hp;simp only[rm]at hk;obtain⟨hlen,hk⟩:=hk;have hl:=D.iy h2;have hseg:=BL N h2;have hcell:∀j v,(vs.take N)[j]?=some v->w.cell? ⟨b,off+j,none⟩=some v:=by
   intro j v hj;rw[bX]at hj;split at hj
   ·exact(hc j v hj).1
   ·cases hj
  have hlen2:(vs.take N).length=N:=by simp;omega
  have hrun:=vg (P:=P) hi (yK hg') w b off _ hcell (by rw[hlen2,<-hN,hin]);refine⟨if ag then .agg (vs.take N).toArray else(vs.take N).headD undef,_,?_,?_,hk⟩
  ·simp only[Instr.loadAt,hv,Instr.sureAddr,aV,bl,aJ,hrun]
  ·cases ag with
   |true=>
    simp only[aH,AV.ok,D.ok];exact⟨(vs.take N).toArray,rfl,by simpa using hseg⟩
   |false=>
    simp only[au,aG]at hN⊢;subst hN;cases cs with
    |nil=>simp at hlen
    |cons c cs=>
     simp only[D.hM]at h2;obtain⟨v,r,rfl,_,h3,_⟩:=h2;simpa[AV.ok]using h3
 |pa cs=>
  simp only[AV.ok]at hp;obtain⟨b,off,vs,hv,hc,h2⟩:=hp;simp only[rm]at hk;obtain⟨rfl,rfl,hlen,hk⟩:=hk;cases cs with
  |nil=>simp at hlen
  |cons c cs=>
   simp only[AV.hM]at h2;obtain⟨v,r,rfl,h3,_⟩:=h2;have hcell:∀j u,([v]:List Value)[j]?=some u->w.cell? ⟨b,off+j,none⟩=some u:=fun j u hj=>by
    cases j with
    |zero=>exact(hc 0 u (by simpa using hj)).1
    |succ j=>simp at hj
   have hrun:=vg (P:=P) hi (yK hg') w b off [v] hcell (by rw[hin];rfl);refine⟨v,_,?_,by simpa using h3,hk⟩;simp only[Instr.loadAt,hv,Instr.sureAddr,aV,bl,aJ,hrun];rfl
 |iB=>simp[rm]at hk
 |d x=>simp[rm]at hk
 |own e id xs=>simp[rm]at hk
 |nC e id off len=>simp[rm]at hk
 |agg cs=>simp[rm]at hk
 |nk cs=>simp[rm]at hk
 |fn f a b=>simp[rm]at hk
 |kG e id n=>simp[rm]at hk
 |BS e xs=>simp[rm]at hk
 |dp d=>simp[rm]at hk
 |mp id=>simp[rm]at hk
 |lT id kk off=>
  simp only[AV.ok]at hp;obtain⟨u,m,b,off',hb,_,hv,hpt⟩:=hp;simp only[rm]at hk;have ho:=hst.inv.obs id;cases hs:sat s id with
  |dead=>simp[hs]at hk
  |tok t' e' n'=>simp[hs]at hk
  |pI t' e' n' cs=>simp[hs]at hk
  |mp P k es=>simp[hs]at hk
  |obj t' cs=>simp[hs]at hk
  |vf e' n' cs=>
   rw[hs]at ho;simp only[hs]at hk;obtain⟨hkm,hlen,rfl,hn1,hdp,hk⟩:=hk;subst hn1;obtain⟨u',bs,hb',_,hcl,hg⟩:=ho;rw[hb']at hb;obtain⟨rfl,rfl⟩:=hb;obtain⟨cap,hu,had⟩:=hpt hkm;subst had;rcases hg with⟨_,hg,_⟩|⟨b',cap',vs,t',hg,hh,_,_,_,h1,_,_,h2⟩
   ·subst hg;simp only[ew]at hcl;omega
   ·rw[hu]at hg;simp only[cA,aR,Addr.mk.injEq]at hg;obtain⟨⟨rfl,_⟩,_⟩:=hg;obtain⟨x0,v0,hx0,hv0,bx,hnx⟩:=Mz h2 (by omega:off'<cs.length);have hdp':DC x0=false:=by rw[av,hx0]at hdp;exact hdp
    have hxv:=VN hdp' hnx;have hc0:w.cell? ⟨b,off',none⟩=some v0:=by
     simp only[World.cell?,hh,cE,au,aG];simpa using hv0
    have hrun:=vg (P:=P) hi (yK hg') w b off' [v0] (fun j v hj=>by
     cases j with
     |zero=>simp at hj;subst hj;exact hc0
     |succ j=>simp at hj) (by simpa using hN.symm)
    refine⟨v0,_,?_,?_,hk⟩
    ·simp only[Instr.loadAt,hv,Instr.sureAddr,aV,bl,aJ,hrun];rfl
    ·rw[av,hx0];exact hxv
  |iM t' e' n' cs=>
   rw[hs]at ho;simp only[hs]at hk;obtain⟨hkm,hlen,hk⟩:=hk;obtain⟨u',hb',hcl,hg⟩:=ho;rw[hb']at hb;obtain⟨rfl,rfl⟩:=hb;obtain⟨cap,hu,had⟩:=hpt hkm;subst had;rcases hg with⟨hg,_⟩|⟨b',cap',vs,hg,hh,_,_,_,h1,pre,rest,hvs,h2⟩
   ·rw[hg]at hu;cases hu
   ·rw[hu]at hg;cases hg;have hl:=D.iy h2;have hseg:=BL N (zD off' h2);have hpre:(vs.toList.drop off').take N=(pre.drop off').take N:=by rw[hvs,cz gB,cw (by simp;omega)]
    rw[<-hpre]at hseg;have hcell:∀j v,((vs.toList.drop off').take N)[j]?=some v->w.cell? ⟨b,off'+j,none⟩=some v:=by
     intro j v hj;rw[bX]at hj;split at hj
     ·rw[cF]at hj;simp only[World.cell?,hh,cE,au,aG];simpa using hj
     ·cases hj
    have hlen2:((vs.toList.drop off').take N).length=N:=by rw[hpre];simp;omega
    have hrun:=vg (P:=P) hi (yK hg') w b off' _ hcell (by rw[hlen2,<-hN,hin]);refine⟨if ag then .agg ((vs.toList.drop off').take N).toArray else((vs.toList.drop off').take N).headD undef,_,?_,?_,hk⟩
    ·simp only[Instr.loadAt,hv,Instr.sureAddr,aV,bl,aJ,hrun]
    ·cases ag with
     |true=>
      simp only[aH,AV.ok,D.ok];exact⟨((vs.toList.drop off').take N).toArray,rfl,by simpa using hseg⟩
     |false=>
      simp only[au,aG]at hN⊢;subst hN;have hltp:off'<pre.length:=by omega
      have hlt:off'<vs.toList.length:=by rw[hvs,aj];omega
      have hlt2:off'<cs.length:=by omega
      have e1:((vs.toList.drop off').take 1).headD undef=vs.toList[off']:=by rw[aK hlt];rfl
      simp only[AV.ok];rw[e1,av,aB hlt2];refine((D.jQ.1 h2).2 off' _ _ (aB hlt2) ?_).2;rw[<-aB hlt,hvs,aU hltp]
theorem U7{t n:Nat}{ag:Bool}{p:Operand}(hop:o.op=.load t p)(hn:kH P t=some n)(hg:Gm P t=some ag)
 (hk:rm (if ag then n else 1) ag (ev env p) s fun x=>k (iq o.dst env x) s):nB P C o env s k:=by
 refine .value fun β a w hst=>?_
 obtain⟨v,x,h1,h2,h3⟩:=EW (P:=P) hn hg hst (hst.ev p) hk;exact⟨v,w,β,env,s,x,by simp only[execOp,hop,aV,h1,aJ,bl],hst,h2,h3⟩
end
theorem KW(β:gU)(id:Nat):gM β id (β id)=β:=by
 funext i;unfold gM;split
 ·rename_i h;rw[h]
 ·rfl
theorem St.Vk{C:Ctx}{β:gU}{env:List AV}{s:gL}{a:Act}{w w':World}(h:St C β env s a w){id b:Nat}{ob:Ob}{p:Place}
 (hbl:gF β s id b) (hsize:w'.heap.size=w.heap.size) (hio:Gb w'=Gb w) (hoth:∀b',b'≠b->w'.heap[b']?=w.heap[b']?)
 (hkeep:∀o v,w.cell? ⟨b,o,none⟩=some v->¬own β s b o->w'.cell? ⟨b,o,none⟩=some v)
 (hown:∀b' o,own (gM β id p) [(id,ob)] b' o->own β s b' o)
 (hblk:∀b',gF (gM β id p) [(id,ob)] id b'->b'=b)
 (hpl:mM (β id) p)
 (hob:∀β' F,(∀x v,AV.ok β (C.gP β s) w x v->AV.ok β' F w' x v)->(∀xs vs,AV.hM β (C.gP β s) w xs vs->AV.hM β' F w' xs vs)->
  β' id=p->vG β' F w' id ob):
 St C (gM β id p) env (sset s id ob) a w'/\mT β s w (gM β id p) (sset s id ob) w':=by
 have m:mT β s w (gM β id p) (sset s id ob) w':=by
  refine⟨gB,hio,fun b' o v hc hn=>?_,fun b' _ hn=>?_,fun b' o ho=>?_,fun i b' hb=>?_,fun i=>?_⟩
  ·by_cases hbb:b'=b
   ·subst hbb;exact hkeep o v hc hn
   ·rw[<-hc];exact dw (hoth b' hbb)
  ·exact hoth b' fun e=>hn id (e▸hbl)
  ·rcases vM ho with ho|ho
   ·exact .inl ho
   ·exact .inl (hown b' o ho)
  ·rcases jH hb with⟨_,hb⟩|⟨_,hb⟩
   ·exact .inl ⟨i,hb⟩
   ·exact .inl ⟨id,(hblk b' hb)▸hbl⟩
  ·by_cases hi:i=id
   ·subst hi;simpa[gM]using hpl
   ·simp only[gM,hi,aG];exact .refl _
 refine⟨h.move m (fun i=>?_) (fun i j b' hi hj=>?_),m⟩
 ·rw[jg];by_cases hi:i=id
  ·subst hi;simp only[aH];exact hob _ _ (fun x v hx=>m.ok hx) (fun xs vs hx=>m.hM hx) (by simp[gM])
  ·simp only[hi,aG];refine(h.inv.obs i).wR m (by simp[gM,hi]) (fun b' hb=>hoth b' fun e=>hi ?_) rfl;subst e;exact h.inv.inj i id b' hb hbl
 ·rcases jH hi with⟨hi1,hi2⟩|⟨rfl,hi2⟩<;>rcases jH hj with⟨hj1,hj2⟩|⟨rfl,hj2⟩
  ·exact h.inv.inj i j b' hi2 hj2
  ·exact absurd (h.inv.inj i _ b' hi2 ((hblk b' hj2)▸hbl)) hi1
  ·exact absurd (h.inv.inj j _ b' hj2 ((hblk b' hi2)▸hbl)) hj1
  ·rfl
theorem St.O7{C:Ctx}{β:gU}{env:List AV}{s:gL}{a:Act}{w:World}(h:St C β env s a w){id b t:Nat}{cs cs':List AV}{vs vs':Array Value}
 (hs:sat s id=.obj t cs) (hb:β id=.blk b) (hh:w.heap[b]?=some (.cells vs t (0,0))) (h1:∀v∈vs'.toList,one v=true)
 (h2:H9 β (C.gP β s) w cs' vs'.toList):St C β env (sset s id (.obj t cs')) a (w.setRow b vs'):=by
 have hbl:gF β s id b:=by unfold gF;rw[hs];exact hb
 have:=(h.Vk (id:=id) (b:=b) (ob:=.obj t cs') (p:=.blk b) (w':=w.setRow b vs') hbl (by simp) (by simp[Gb])
  (fun b' hb'=>fL w b b' vs' (fun e=>hb' e))
  (fun o v _ hn=>absurd ⟨id,by rw[hs];exact hb⟩ hn)
  (fun b' o ho=>by
   obtain⟨i,ho⟩:=ho;by_cases hi:i=id
   ·subst hi;simp[sat,gM]at ho;subst ho;exact⟨i,by rw[hs];exact hb⟩
   ·simp[sat,hi]at ho)
  (fun b' hb'=>by simp[gF,sat,gM]at hb';exact hb'.symm)
  (by rw[hb];rfl)
  (fun β' F _ hxs hp=>⟨b,vs',hp,eH w b vs vs' t (0,0) hh,h1,h2.imp fun _ h=>hxs _ _ h⟩)).1
 rw[<-hb,KW]at this;exact this
section
variable{P:Program}{C:Ctx}{o:Oper}{env:List AV}{s:gL}{k:List AV->gL->Prop}
theorem nB.skip{P:Program}{C:Ctx}{o:Oper}{env:List AV}{s:gL}{k:List AV->gL->Prop}
 (h:∀β a w,St C β env s a w->∃w' β' env' s',(execOp a.eval o).run P w=.ok .skip w'/\St C β' env' s' a w'/\
  k (iq o.dst env' .iB) s'):nB P C o env s k:=by
 intro hnd Q β a w hst;obtain⟨w',β',env',s',hr,h1,h3⟩:=h β a w hst;refine⟨fun _ _=>trivial,?_⟩;rw[Oper.semAt_eq _ _ _ hnd,hr];exact⟨β',_,s',h1.put (x:=.iB) (v:=undef) (by simp[AV.ok]) o.dst,h3⟩
theorem wT{v:Value}(h:one v=true):v.oneCell'=true:=by cases v<;>simp_all[one,Value.oneCell']
theorem DV{x:Operand}(hop:o.op=.nilCheck x){y:AV}(hx:ev env x=y)(hy:(∃id off,y=.ptr id off)\/(∃cs,y=.pv cs)\/(∃f a b,y=.fn f a b)\/(∃id m off,y=.lT id m off)\/∃cs,y=.pa cs)
 (hk:k (iq o.dst env y) s):nB P C o env s k:=by
 refine .value fun β a w hst=>?_
 have h:=hst.ev x;rw[hx]at h;refine⟨a.eval x,w,β,env,s,y,?_,hst,h,hk⟩;rcases hy with⟨id,off,rfl⟩|⟨cs,rfl⟩|⟨f,c,d,rfl⟩|⟨id,m,off,rfl⟩|⟨cs,rfl⟩
 ·simp only[AV.ok]at h;obtain⟨b,_,h⟩:=h;simp[execOp,hop,h]
 ·simp only[AV.ok]at h;obtain⟨b,off,vs,h,_⟩:=h;simp[execOp,hop,h]
 ·simp only[AV.ok]at h;obtain⟨fs,cs,h,_⟩:=h;simp[execOp,hop,h]
 ·simp only[AV.ok]at h;obtain⟨u,m',b,off',_,_,h,_⟩:=h;simp[execOp,hop,h]
 ·simp only[AV.ok]at h;obtain⟨b,off,vs,h,_⟩:=h;simp[execOp,hop,h]
theorem TM{op:BinOp}{t t':Nat}{x y:Operand}(hop:o.op=.binOp op t x y t')
 (hk:P7 op (ev env x) (ev env y) fun r=>k (iq o.dst env r) s):nB P C o env s k:=by
 refine .value fun β a w hst=>?_
 unfold P7 at hk;split at hk
 ·rename_i j n j' m hx hy;have h1:=hst.ev x;have h2:=hst.ev y;rw[hx]at h1;rw[hy]at h2;have h1:=qH h1;have h2:=qH h2;obtain⟨hkk,hk⟩:=hk;have hguard:(eqGuard op t x y (.int j n) (.int j' m)).run P w=.ok () w:=by
   unfold eqGuard;split<;>simp
  have main:∀r:Value,one r=true->(binOp op t (.int j n) (.int j' m)).run P w=.ok r w->k (iq o.dst env (.d (.lit r))) s->
   ∃v w' β' env' s' x,(execOp a.eval o).run P w=.ok (.value v) w'/\St C β' env' s' a w'/\AV.ok β' (C.gP β' s') w' x v/\k (iq o.dst env' x) s':=by
   intro r hr hrun hk;exact⟨r,w,β,env,s,_,by simp[execOp,hop,h1,h2,hguard,hrun],hst,wh hr,hk⟩
  cases op with
  |add=>cases hkk;exact main _ rfl (by simp[binOp];rfl) hk
  |sub=>cases hkk;exact main _ rfl (by simp[binOp];rfl) hk
  |mul=>cases hkk;exact main _ rfl (by simp[binOp];rfl) hk
  |quo=>cases hkk;exact main _ rfl (by simp[binOp,Op.intDiv,hk.1]) hk.2
  |rem=>cases hkk;exact main _ rfl (by simp[binOp,Op.intDiv,hk.1]) hk.2
  |and=>cases hkk;exact main _ rfl (by simp[binOp,Op.intBits,zW]) hk
  |or=>cases hkk;exact main _ rfl (by simp[binOp,Op.intBits,YM]) hk
  |xor=>cases hkk;exact main _ rfl (by simp[binOp,Op.intBits,Mf]) hk
  |shl=>exact main _ rfl (by simp[binOp,Op.shift,HB,Int.not_lt.2 hk.1]) hk.2
  |shr=>exact main _ rfl (by simp[binOp,Op.shift,Bn,Int.not_lt.2 hk.1]) hk.2
  |andNot=>cases hkk;exact main _ rfl (by simp[binOp,Op.intBits,JJ]) hk
  |eql=>cases hkk;exact main _ rfl (by simp[binOp];rfl) hk
  |neq=>cases hkk;exact main _ rfl (by simp[binOp];rfl) hk
  |lss=>cases hkk;exact main _ rfl (by simp[binOp];rfl) hk
  |leq=>cases hkk;exact main _ rfl (by simp[binOp];rfl) hk
  |gtr=>cases hkk;exact main _ rfl (by simp[binOp];rfl) hk
  |geq=>cases hkk;exact main _ rfl (by simp[binOp];rfl) hk
 ·rename_i b c hx hy;have h1:=hst.ev x;have h2:=hst.ev y;rw[hx]at h1;rw[hy]at h2;have h1:=qH h1;have h2:=qH h2;have hguard:(eqGuard op t x y (.string b) (.string c)).run P w=.ok () w:=by
   unfold eqGuard;split<;>simp
  have main:∀r:Value,one r=true->(binOp op t (.string b) (.string c)).run P w=.ok r w->k (iq o.dst env (.d (.lit r))) s->
   ∃v w' β' env' s' x,(execOp a.eval o).run P w=.ok (.value v) w'/\St C β' env' s' a w'/\AV.ok β' (C.gP β' s') w' x v/\k (iq o.dst env' x) s':=by
   intro r hr hrun hk;exact⟨r,w,β,env,s,_,by simp[execOp,hop,h1,h2,hguard,hrun],hst,wh hr,hk⟩
  cases op with
  |add=>
   have hle:¬((b.size+c.size:Nat):Int)>IntKind.i64.max:=by
    have h0:=hk.1;have:IntKind.i64.max=9223372036854775807:=by decide
    rw[this];omega
   exact main _ rfl (by simp only[binOp,Op.stringOp];rw[az hle];rfl) hk.2
  |eql=>exact main _ rfl (by simp only[binOp,Op.stringOp];rfl) hk
  |neq=>exact main _ rfl (by simp only[binOp,Op.stringOp];rfl) hk
  |_=>exact hk.elim
 ·exact hk.elim
theorem run_equal_bool{t:Nat}(hu:P.underlying t=some .bool)(w:World)(p q:Bool):(Op.equal t (.bool p) (.bool q)).run P w=.ok (p==q) w:=by
 have hd:Op.maxDepth=9999+1:=rfl;unfold Op.equal;rw[hd];unfold Op.equalIn;simp only[aV,bf hu,aJ];rfl
theorem ON{op:BinOp}{t t':Nat}{x y:Operand}(hop:o.op=.binOp op t x y t')(hu:P.underlying t=some .bool){neg:Bool}
 (hn:(op=.eql/\neg=false)\/(op=.neq/\neg=true)) {p q:Bool} (hx:ev env x=.d (.lit (.bool p))) (hy:ev env y=.d (.lit (.bool q)))
 (hk:k (iq o.dst env (.d (bD (if neg then p != q else p==q)))) s):nB P C o env s k:=by
 refine .value fun β a w hst=>?_
 have h1:=hst.ev x;have h2:=hst.ev y;rw[hx]at h1;rw[hy]at h2;have h1:=qH h1;have h2:=qH h2;refine⟨.bool (if neg then p != q else p==q),w,β,env,s,_,?_,hst,wh rfl,hk⟩;have hguard:(eqGuard op t x y (.bool p) (.bool q)).run P w=.ok () w:=by
  unfold eqGuard;split<;>simp
 rcases hn with⟨rfl,rfl⟩|⟨rfl,rfl⟩
 ·simp[execOp,hop,h1,h2,hguard,binOp,run_equal_bool hu]
 ·simp[execOp,hop,h1,h2,hguard,binOp,run_equal_bool hu,bne]
theorem Hx{op:BinOp}{t t' e:Nat}{x y:Operand}(hop:o.op=.binOp op t x y t')(hu:P.underlying t=some (.slice e))(hy:v_ y=true){neg:Bool}
 (hn:(op=.eql/\neg=false)\/(op=.neq/\neg=true))
 (hx:∀β a w,St C β env s a w->∃(ad:Option Addr)(n cap:Nat)(b:Bool),a.eval x=.slice ad n cap/\ad.isNone=b/\k (iq o.dst env (.d (bD (if neg then !b else b)))) s):nB P C o env s k:=by
 refine .value fun β a w hst=>?_
 obtain⟨ad,n,cap,b,h1,h3,hk⟩:=hx β a w hst;have h2:a.eval y=.slice none 0 0:=by
  unfold v_ at hy;split at hy
  ·rfl
  ·cases hy
 refine⟨.bool (if neg then !b else b),w,β,env,s,_,?_,hst,wh rfl,hk⟩;have hguard:(eqGuard op t x y (.slice ad n cap) (.slice none 0 0)).run P w=.ok () w:=by
  unfold eqGuard;split<;>simp
 have heq:(Op.equal t (.slice ad n cap) (.slice none 0 0)).run P w=.ok b w:=by
  subst h3;have hd:Op.maxDepth=9999+1:=rfl;unfold Op.equal;rw[hd];unfold Op.equalIn;simp only[aV,bf hu,aJ];cases ad<;>rfl
 rcases hn with⟨rfl,rfl⟩|⟨rfl,rfl⟩
 ·simp[execOp,hop,h1,h2,hguard,binOp,heq]
 ·simp[execOp,hop,h1,h2,hguard,binOp,heq]
theorem Kv{op:BinOp}{t t' e:Nat}{x y:Operand}(hop:o.op=.binOp op t x y t')(hu:P.underlying t=some (.slice e))(hy:v_ y=true){neg:Bool}
 (hn:(op=.eql/\neg=false)\/(op=.neq/\neg=true)) {b:Bool} (hx:zb (ev env x)=some b)
 (hk:k (iq o.dst env (.d (bD (if neg then !b else b)))) s):nB P C o env s k:=Hx hop hu hy hn fun _ _ _ hst=>
 let⟨ad,n,cap,h1,h3⟩:=UU (hst.ev x) hx;⟨ad,n,cap,b,h1,h3,hk⟩
theorem Hy{op:BinOp}{t t' e:Nat}{x y:Operand}(hop:o.op=.binOp op t x y t')(hu:P.underlying t=some (.slice e))(hy:v_ y=true){neg:Bool}
 (hn:(op=.eql/\neg=false)\/(op=.neq/\neg=true)) {e':Nat} {xs:List D} (hx:qO (ev env x)=some (e',xs))
 (hk1:xs=[]->k (iq o.dst env (.d (bD (if neg then !true else true)))) s) (hk2:k (iq o.dst env (.d (bD (if neg then !false else false)))) s):nB P C o env s k:=
 Hx hop hu hy hn fun β a w hst=>by
  obtain⟨ad,cap,h1,_,_,h4⟩:=zn (hst.ev x) hx;cases ad with
  |some p=>exact⟨_,_,_,false,h1,rfl,hk2⟩
  |none=>
   refine⟨_,_,_,true,h1,rfl,hk1 ?_⟩;rcases h4 with h4|⟨b,o,h4,_⟩
   ·exact h4
   ·cases h4
theorem Yy{t:Nat}{x:Operand}(hop:o.op=.unOp .not t x){b:Bool}(hx:ev env x=.d (.lit (.bool b)))
 (hk:k (iq o.dst env (.d (bD (!b)))) s):nB P C o env s k:=by
 refine .pure (x:=.d (bD (!b))) (fun β a w hst=>?_) hk;have h:=hst.ev x;rw[hx]at h;have h:=qH h;exact⟨.bool (!b),by simp[execOp,hop,h,Op.unary],wh rfl⟩
theorem Yx{t:Nat}{x:Operand}(hop:o.op=.unOp .neg t x){j:IntKind}{n:Int}(hx:ev env x=.d (.lit (.int j n)))
 (hk:k (iq o.dst env (.d (.lit (.int j (j.wrap (0-n)))))) s):nB P C o env s k:=by
 refine .pure (x:=.d (.lit (.int j (j.wrap (0-n))))) (fun β a w hst=>?_) hk;have h:=hst.ev x;rw[hx]at h;have h:=qH h;exact⟨.int j (j.wrap (0-n)),by simp[execOp,hop,h,Op.unary,Op.intArith],wh rfl⟩
theorem U6{t u:Nat}{x:Operand}(hop:o.op=.convert t u x){j':IntKind}(ht:∃j,P.underlying t=some (.int j))(hu:P.underlying u=some (.int j'))
 {j:IntKind} {n:Int} (hx:ev env x=.d (.lit (.int j n)))
 (hk:k (iq o.dst env (.d (.lit (.int j' (j'.wrap n))))) s):nB P C o env s k:=by
 refine .pure (x:=.d (.lit (.int j' (j'.wrap n)))) (fun β a w hst=>?_) hk;have h:=hst.ev x;rw[hx]at h;have h:=qH h;obtain⟨j0,ht⟩:=ht;exact⟨.int j' (j'.wrap n),by simp[execOp,hop,h,convert,bf ht,bf hu,Conv.intToInt],wh rfl⟩
theorem Fq{β:gU}{a:Act}{w:World}(hst:St C β env s a w):∀(xs:List Operand),AV.hM β (C.gP β s) w (xs.map (ev env)) (xs.map a.eval)
 |[]=>by simp[AV.hM]
 |x::xs=>by simp only[aX,AV.hM];exact⟨_,_,rfl,hst.ev x,Fq hst xs⟩
theorem U8{f:Nat}{first cap:Array Operand}(hop:o.op=.makeFunc (.func f) first cap)
 (hk:k (iq o.dst env (.fn f (first.toList.map (ev env)) (cap.toList.map (ev env)))) s):nB P C o env s k:=by
 refine .pure (x:=.fn f (first.toList.map (ev env)) (cap.toList.map (ev env))) (fun β a w hst=>?_) hk;refine⟨.func (.func f) (first.map a.eval) (cap.map a.eval),by simp[execOp,hop,Instr.makeFunc],?_⟩;simp only[AV.ok];exact⟨_,_,rfl,by simpa using Fq hst first.toList,by simpa using Fq hst cap.toList⟩
theorem Ys{x:Operand}{i:Nat}(hop:o.op=.extract x i){cs:List AV}(hx:ev env x=.nk cs)(hi:i<cs.length)
 (hk:k (iq o.dst env (cs.getD i .iB)) s):nB P C o env s k:=by
 refine .value fun β a w hst=>?_
 have h:=hst.ev x;rw[hx]at h;simp only[AV.ok]at h;obtain⟨vs,h1,h2⟩:=h;have hl:=AV.iy h2;have hlt:i<vs.size:=by simpa[<-hl]using hi
 refine⟨vs[i],w,β,env,s,_,by simp[execOp,hop,h1,Instr.extract,cS hlt],hst,?_,hk⟩;rw[av,aB hi];exact(AV.jQ.1 h2).2 i _ _ (aB hi) (by simp[cS hlt])
theorem Yu{c:Call}(hop:o.op=.call c)(hc:c.callee=.builtin .max){x y:Operand}(ha:c.args=#[x,y]){j:IntKind}{n m:Int}
 (hx:ev env x=.d (.lit (.int j n))) (hy:ev env y=.d (.lit (.int j m)))
 (hk:k (iq o.dst env (.d (.lit (.int j (if m>n then m else n))))) s):nB P C o env s k:=by
 refine .pure (x:=.d (.lit (.int j (if m>n then m else n)))) (fun β a w hst=>?_) hk;have h1:=hst.ev x;have h2:=hst.ev y;rw[hx]at h1;rw[hy]at h2;have h1:=qH h1;have h2:=qH h2;exact⟨.int j (if m>n then m else n),by simp[execOp,hop,resolve,hc,ha,h1,h2,invoke,builtin,Builtin.max_,Builtin.max2],wh rfl⟩
theorem Yv{c:Call}(hop:o.op=.call c)(hc:c.callee=.builtin .min){x y:Operand}(ha:c.args=#[x,y]){j:IntKind}{n m:Int}
 (hx:ev env x=.d (.lit (.int j n))) (hy:ev env y=.d (.lit (.int j m)))
 (hk:k (iq o.dst env (.d (.lit (.int j (if m<n then m else n))))) s):nB P C o env s k:=by
 refine .pure (x:=.d (.lit (.int j (if m<n then m else n)))) (fun β a w hst=>?_) hk;have h1:=hst.ev x;have h2:=hst.ev y;rw[hx]at h1;rw[hy]at h2;have h1:=qH h1;have h2:=qH h2;exact⟨.int j (if m<n then m else n),by simp[execOp,hop,resolve,hc,ha,h1,h2,invoke,builtin,Builtin.min_,Builtin.min2],wh rfl⟩
theorem Kw{t f:Nat}{p:Operand}(hop:o.op=.fieldAddr t p f){fs:Array Field}(hu:P.underlying t=some (.struct fs)){fd:Field}(hf:fs[f]?=some fd)
 {n:Nat} (hn:kH P fd.type=some n) (h0:n≠0) {r:AV}
 (hr:(∃id off,ev env p=.ptr id off/\r=.ptr id (off+fd.offset))\/(∃cs,ev env p=.pv cs/\r=.pv (cs.drop fd.offset))\/(∃id m off,ev env p=.lT id m off/\r=.lT id m (off+fd.offset))\/(∃cs,ev env p=.pa cs/\r=.pa (cs.drop fd.offset)))
 (hk:k (iq o.dst env r) s):nB P C o env s k:=by
 refine .value fun β a w hst=>?_
 obtain⟨i,hi,hin⟩:∃i,P.info? fd.type=some i/\i.size=n:=by
  unfold kH at hn;cases hq:P.info? fd.type with
  |none=>simp[hq]at hn
  |some i=>exact⟨i,rfl,by simpa[hq]using hn⟩
 have hp:=hst.ev p;have hplace:∀b off,(fieldPlace ⟨b,off,none⟩ fd).run P w=.ok ⟨b,off+fd.offset,none⟩ w:=by
  intro b off;simp[fieldPlace,Go.sizeOf,typeInfo,hi,hin,h0,dH]
 rcases hr with⟨id,off,he,rfl⟩|⟨cs,he,rfl⟩|⟨id,m,off,he,rfl⟩|⟨cs,he,rfl⟩
 ·rw[he]at hp;simp only[AV.ok]at hp;obtain⟨b,hb,hv⟩:=hp;refine⟨.pointer (some ⟨b,off+fd.offset,none⟩),w,β,env,s,_,?_,hst,?_,hk⟩
  ·simp[execOp,hop,Instr.fieldAt,bf hu,hf,hv,Instr.sureAddr,hplace]
  ·simp only[AV.ok];exact⟨b,hb,rfl⟩
 ·rw[he]at hp;simp only[AV.ok]at hp;obtain⟨b,off,vs,hv,hc,h2⟩:=hp;refine⟨.pointer (some ⟨b,off+fd.offset,none⟩),w,β,env,s,_,?_,hst,?_,hk⟩
  ·simp[execOp,hop,Instr.fieldAt,bf hu,hf,hv,Instr.sureAddr,hplace]
  ·simp only[AV.ok];refine⟨b,off+fd.offset,vs.drop fd.offset,rfl,fun j v hj=>?_,zD _ h2⟩;rw[cF]at hj;have:=hc _ v hj;rwa [<-cV]at this
 ·rw[he]at hp;simp only[AV.ok]at hp;obtain⟨u,m',b,off',hb,hle,hv,hpt⟩:=hp;refine⟨.pointer (some ⟨b,off'+fd.offset,none⟩),w,β,env,s,_,?_,hst,?_,hk⟩
  ·simp[execOp,hop,Instr.fieldAt,bf hu,hf,hv,Instr.sureAddr,hplace]
  ·simp only[AV.ok];refine⟨u,m',b,off'+fd.offset,hb,hle,rfl,fun e=>?_⟩;obtain⟨cap,h1,h2⟩:=hpt e;exact⟨cap,h1,by rw[h2]⟩
 ·rw[he]at hp;simp only[AV.ok]at hp;obtain⟨b,off,vs,hv,hc,h2⟩:=hp;refine⟨.pointer (some ⟨b,off+fd.offset,none⟩),w,β,env,s,_,?_,hst,?_,hk⟩
  ·simp[execOp,hop,Instr.fieldAt,bf hu,hf,hv,Instr.sureAddr,hplace]
  ·simp only[AV.ok];refine⟨b,off+fd.offset,vs.drop fd.offset,rfl,fun j v hj=>?_,ze _ h2⟩;rw[cF]at hj;have:=hc _ v hj;rwa [<-cV]at this
end
section
variable{P:Program}{C:Ctx}{o:Oper}{env:List AV}{s:gL}{k:List AV->gL->Prop}
theorem kR{t n:Nat}(hn:kH P t=some n):∃i,P.info? t=some i/\i.size=n:=by
 unfold kH at hn;cases hq:P.info? t with
 |none=>simp[hq]at hn
 |some i=>exact⟨i,rfl,by simpa[hq]using hn⟩
theorem uS{t n:Nat}(hn:xV P t=some n):∃i,P.info? t=some i/\i.bytes=n:=by
 unfold xV at hn;cases hq:P.info? t with
 |none=>simp[hq]at hn
 |some i=>exact⟨i,rfl,by simpa[hq]using hn⟩
theorem nX{t e:Nat}(hn:EJ P t=some e):P.underlying t=some (.slice e):=by
 unfold EJ at hn;split at hn
 ·cases hn;assumption
 ·cases hn
theorem zk{t e:Nat}{i:TypeInfo}(hu:P.underlying t=some (.slice e))(hi:P.info? e=some i)(w:World)(b off len cap:Nat)(j:IntKind)(n:Int)
 (h0:0<=n) (hn:n<len):(Instr.indexAt t (.slice (some ⟨b,off,none⟩) len cap) (.int j n)).run P w=.ok (.pointer (some ⟨b,off+n.toNat*i.size,none⟩)) w:=by
 simp[Instr.indexAt,asIntOf,bf hu,h0,hn,Go.sizeOf,typeInfo,hi,dH]
theorem Yt{t e n:Nat}{x ix:Operand}(hop:o.op=.indexAddr t x ix)(hu:P.underlying t=some (.slice e))(hn:kH P e=some n)
 (hk:QT n (ev env x) (ev env ix) fun r=>k (iq o.dst env r) s):nB P C o env s k:=by
 refine .value fun β a w hst=>?_
 obtain⟨i,hi,hin⟩:=kR hn;unfold QT at hk;split at hk
 ·exact hk.elim
 ·rename_i m hm;obtain⟨j,hv⟩:=tS (hst.ev ix) hm;have hx:=hst.ev x;split at hk
  ·rename_i e' id off len hxe;obtain⟨rfl,h0,h1,hk⟩:=hk;rw[hxe]at hx;simp only[AV.ok]at hx;obtain⟨b,cap,hb,_,hxv⟩:=hx;refine⟨.pointer (some ⟨b,off+m.toNat*i.size,none⟩),w,β,env,s,_,?_,hst,?_,hk⟩
   ·simp only[execOp,hop,hxv,hv,aV,zk hu hi w b off len cap j m h0 h1,aJ,bl]
   ·simp only[AV.ok,hin];exact⟨b,hb,rfl⟩
  ·rename_i e' id len hxe;obtain⟨rfl,h0,h1,hk⟩:=hk;rw[hxe]at hx;simp only[AV.ok]at hx;obtain⟨u,q,hb,hle,heq,⟨_,hxv,hl0⟩|⟨g,cap,hxv,_,_⟩⟩:=hx
   ·subst hl0;omega
   ·refine⟨.pointer (some ⟨g,0+m.toNat*i.size,none⟩),w,β,env,s,_,?_,hst,?_,hk⟩
    ·simp only[execOp,hop,hxv,hv,aV,zk hu hi w g 0 len cap j m h0 h1,aJ,bl]
    ·simp only[AV.ok,hin];refine⟨u,q,g,_,hb,hle,rfl,fun e=>⟨cap,?_,by simp⟩⟩;rw[<-heq e.symm,hxv,e]
  ·split at hk
   ·rename_i e' xs hxs;obtain⟨rfl,h0,h1,hk⟩:=hk;obtain⟨ad,cap,hxv,_,_,hrow⟩:=zn hx hxs;rcases hrow with hrow|⟨b,off,rfl,hrow⟩
    ·subst hrow;simp at h1;omega
    ·have hlt:m.toNat<xs.length:=by omega
     obtain⟨vs,hvs,hc,hcel⟩:=Bl hrow (aB hlt);refine⟨.pointer (some ⟨b,off+m.toNat*i.size,none⟩),w,β,env,s,_,?_,hst,?_,hk⟩
     ·simp only[execOp,hop,hxv,hv,aV,zk hu hi w b off xs.length cap j m h0 h1,aJ,bl]
     ·simp only[AV.ok];refine⟨b,_,vs,rfl,by rw[hin];exact hc,?_⟩;rw[av,aB hlt];exact J1 hcel hc
   ·exact hk.elim
theorem OQ{t e n len:Nat}{x ix:Operand}(hop:o.op=.indexAddr t x ix)(hu:P.underlying t=some (.array len e))(hn:kH P e=some n)
 {m:Int} (hm:js (ev env ix)=some m) (h0:0<=m) (h1:m<len) {r:AV}
 (hr:(∃id off,ev env x=.ptr id off/\r=.ptr id (off+m.toNat*n))\/(∃cs,ev env x=.pv cs/\r=.pv (cs.drop (m.toNat*n))))
 (hk:k (iq o.dst env r) s):nB P C o env s k:=by
 refine .value fun β a w hst=>?_
 obtain⟨i,hi,hin⟩:=kR hn;obtain⟨j,hv⟩:=tS (hst.ev ix) hm;have hx:=hst.ev x;have hrun:∀b off,(Instr.indexAt t (.pointer (some ⟨b,off,none⟩)) (.int j m)).run P w=.ok (.pointer (some ⟨b,off+m.toNat*n,none⟩)) w:=by
  intro b off;simp[Instr.indexAt,asIntOf,bf hu,h0,h1,Go.sizeOf,typeInfo,hi,hin,dH,Instr.sureAddr]
 rcases hr with⟨id,off,he,rfl⟩|⟨cs,he,rfl⟩
 ·rw[he]at hx;simp only[AV.ok]at hx;obtain⟨b,hb,hxv⟩:=hx;refine⟨.pointer (some ⟨b,off+m.toNat*n,none⟩),w,β,env,s,_,by simp only[execOp,hop,hxv,hv,aV,hrun,aJ,bl],hst,?_,hk⟩;simp only[AV.ok];exact⟨b,hb,rfl⟩
 ·rw[he]at hx;simp only[AV.ok]at hx;obtain⟨b,off,vs,hxv,hc,h2⟩:=hx;refine⟨.pointer (some ⟨b,off+m.toNat*n,none⟩),w,β,env,s,_,by simp only[execOp,hop,hxv,hv,aV,hrun,aJ,bl],hst,?_,hk⟩;simp only[AV.ok];refine⟨b,_,vs.drop (m.toNat*n),rfl,fun q v hj=>?_,zD _ h2⟩;rw[cF]at hj;have:=hc _ v hj;rwa [<-cV]at this
theorem OR{c:Call}(hop:o.op=.call c)(hc:c.callee=.builtin .len){x:Operand}(ha:c.args=#[x]){t:Nat}(ht:c.argTypes[0]?=some t)
 {e:Nat} (hu:P.underlying t=some (.slice e)) {n:Nat}
 (hv:∀β w v,AV.ok β (C.gP β s) w (ev env x) v->∃a cap,v=.slice a n cap)
 (hk:k (iq o.dst env (.d (iD n))) s):nB P C o env s k:=by
 refine .pure (x:=.d (iD n)) (fun β a w hst=>?_) hk;obtain⟨ad,cap,hx⟩:=hv _ _ _ (hst.ev x);exact⟨.int .i64 n,by simp[execOp,hop,resolve,hc,ha,invoke,builtin,Builtin.len_,ht,bf hu,hx,goInt],wh rfl⟩
theorem Hu{O:Own}{w:World}{b e:Nat}:∀{xs:List D}{o:Nat}(l:Nat),D.row O w b o e xs->D.row O w b (o+l*e) e (xs.drop l)
 |[],o,l=>fun _=>by simp[D.row]
 |x::xs,o,0=>fun h=>by simpa using h
 |x::xs,o,l+1=>fun h=>by
  rw[D.ni]at h;have:=Hu l h.2;have e1:o+e+l*e=o+(l+1)*e:=by rw[bH];omega
  rw[e1]at this;simpa using this
theorem DR{O:Own}{w:World}{b e:Nat}:∀{xs:List D}{o:Nat}(l:Nat),D.row O w b o e xs->D.row O w b o e (xs.take l)
 |[],o,l=>fun _=>by simp[D.row]
 |x::xs,o,0=>fun _=>by simp[D.row]
 |x::xs,o,l+1=>fun h=>by
  rw[D.ni]at h;rw[dP,D.ni];exact⟨h.1,DR l h.2⟩
theorem Ih{β:gU}{a:Act}{w:World}(hst:St C β env s a w){d n:Int}{x:Option Operand}(h:Fg env d x=some n):
 (x=none/\n=d)\/∃y j,x=some y/\a.eval y=.int j n:=by
 cases x with
 |none=>simp only[Fg,aR]at h;exact .inl ⟨rfl,h.symm⟩
 |some y=>
  simp only[Fg]at h;obtain⟨j,hj⟩:=tS (hst.ev y) h;exact .inr ⟨y,j,rfl,hj⟩
theorem yz{β:gU}{a:Act}{w:World}(hst:St C β env s a w){lo hi:Option Operand}{l h:Int}(len cap:Nat)
 (hl:Fg env 0 lo=some l) (hh:Fg env len hi=some h) (h0:0<=l) (h1:l<=h) (h2:h<=len) (hc:len<=cap):
 (Instr.sliceBounds true len cap (lo.map a.eval) (hi.map a.eval) none).run P w=.ok (l.toNat,h.toNat,cap) w:=by
 have hb:∀(j:IntKind)(n:Int)(y:Nat)(c:BoundsCode),0<=n->n<=y->(Instr.sliceBound (.int j n) y c).run P w=.ok n.toNat w:=by
  intro j n y c h3 h4;simp[Instr.sliceBound,asIntOf,h3,h4]
 rcases Ih hst hh with⟨rfl,rfl⟩|⟨yh,jh,rfl,eh⟩<;>rcases Ih hst hl with⟨rfl,rfl⟩|⟨yl,jl,rfl,el⟩
 ·simp[Instr.sliceBounds]
 ·simp only[Instr.sliceBounds,eP,aT,el,aV,bl,aJ];rw[hb jl l len _ h0 h1];simp
 ·simp only[Instr.sliceBounds,eP,aT,eh,aV,bl,aJ];rw[hb jh h cap _ gB gB];simp
 ·simp only[Instr.sliceBounds,aT,eh,el,aV,bl,aJ];rw[hb jh h cap _ gB gB];simp only[aJ];rw[hb jl l h.toNat _ h0 gB];simp
theorem Yz{t e n:Nat}{x:Operand}{lo hi:Option Operand}(hop:o.op=.slice t x lo hi none)(hu:P.underlying t=some (.slice e))(hn:kH P e=some n)
 {xs:List D} {e':Nat} (hxs:qO (ev env x)=some (e',xs)) (he:xs=[]\/e'=n) (hk:RB (ev env x) (Fg env 0 lo) (Fg env xs.length hi) fun r=>k (iq o.dst env r) s):nB P C o env s k:=by
 refine .value fun β a w hst=>?_
 obtain⟨i,hi',hin⟩:=kR hn;obtain⟨ad,cap,hxv,hcap,hnl,hrow⟩:=zn (hst.ev x) hxs;unfold RB at hk;rw[hxs]at hk;split at hk
 ·rename_i e2 ys l h he2 hl hh;cases he2;obtain⟨h0,h1,h2,hk⟩:=hk;have hcap1:xs.length<=cap:=hcap.1;have hrun:=yz (P:=P) hst (lo:=lo) (hi:=hi) xs.length cap hl hh h0 h1 h2 hcap.1;refine⟨.slice (if cap=l.toNat then ad else ad.map (·.add (l.toNat*n))) (h.toNat-l.toNat) (cap-l.toNat),w,β,env,s,_,?_,hst,?_,hk⟩
  ·simp only[execOp,hop,Instr.sliceAt,aV,bf hu,aJ,hxv];simp[Instr.slice,bf hu,hrun,Go.sizeOf,typeInfo,hi',hin]
  ·simp only[AV.ok,D.ok];have hlen:((xs.take h.toNat).drop l.toNat).length=h.toNat-l.toNat:=by simp;omega
   refine⟨_,_,by rw[hlen],by rw[hlen];exact⟨gB,by have:=hcap.2;omega⟩,?_,?_⟩
   ·cases hq:zb (ev env x)with
    |none=>trivial
    |some b=>
     have:=hnl b hq;cases b with
     |true=>
      obtain⟨rfl,rfl⟩:=this;refine⟨?_,gB⟩;split<;>rfl
     |false=>
      show _≠none;split
      ·exact this
      ·cases ad with
       |none=>exact absurd rfl this
       |some a=>simp
   ·rcases hrow with hrow|⟨b,off,rfl,hrow⟩
    ·subst hrow;left;simp
    ·by_cases hz:(xs.take h.toNat).drop l.toNat=[]
     ·exact .inl hz
     ·right;have hlt:l.toNat<h.toNat:=by
       rcases cB l.toNat h.toNat with h3|h3
       ·exact h3
       ·exfalso;apply hz;apply bY.1;rw[hlen];omega
      have hne:cap≠l.toNat:=by omega
      rcases he with he|he
      ·subst he;simp at hz
      ·subst he;exact⟨b,off+l.toNat*e',by rw[az hne];simp[dH],Hu _ (DR _ hrow)⟩
 ·exact hk.elim
theorem Va{t e n:Nat}{x hh m:Operand}(hop:o.op=.slice t x none (some hh) (some m))(hu:P.underlying t=some (.slice e))(hn:kH P e=some n)
 {xs:List D} {e':Nat} (hxs:qO (ev env x)=some (e',xs)) {h:Int} (h1:js (ev env hh)=some h) (h2:js (ev env m)=some h) (h0:0<=h) (hle:h<=xs.length)
 (hk:k (iq o.dst env (.BS e' (xs.take h.toNat))) s):nB P C o env s k:=by
 refine .value fun β a w hst=>?_
 obtain⟨i,hi',hin⟩:=kR hn;obtain⟨ad,cap,hxv,hcap,hnl,hrow⟩:=zn (hst.ev x) hxs;obtain⟨jh,eh⟩:=tS (hst.ev hh) h1;obtain⟨jm,em⟩:=tS (hst.ev m) h2;have hcap1:xs.length<=cap:=hcap.1;have hb:∀(j:IntKind)(n:Int)(y:Nat)(c:BoundsCode),0<=n->n<=y->(Instr.sliceBound (.int j n) y c).run P w=.ok n.toNat w:=by
  intro j n y c h3 h4;simp[Instr.sliceBound,asIntOf,h3,h4]
 have hrun:(Instr.sliceBounds true xs.length cap none (some (a.eval hh)) (some (a.eval m))).run P w=.ok (0,h.toNat,h.toNat) w:=by
  simp only[Instr.sliceBounds,eh,em,aV,bl,aJ];rw[hb jm h cap _ h0 gB];simp only[aJ];rw[hb jh h h.toNat _ h0 gB];simp
 have hlen:(xs.take h.toNat).length=h.toNat:=by simp;omega
 refine⟨.slice (if h.toNat=0 then ad else ad.map (·.add 0)) h.toNat h.toNat,w,β,env,s,_,?_,hst,?_,hk⟩
 ·simp only[execOp,hop,Instr.sliceAt,aV,bf hu,aJ,hxv];simp[Instr.slice,bf hu,hrun,Go.sizeOf,typeInfo,hi',hin]
 ·have had:(if h.toNat=0 then ad else ad.map (·.add 0))=ad:=by
   split
   ·rfl
   ·cases ad<;>simp[Addr.add]
  rw[had];simp only[AV.ok,D.ok];refine⟨ad,by rw[hlen],ad,h.toNat,by rw[hlen],by rw[hlen];exact⟨ay _,by have:=hcap.2;omega⟩,trivial,?_⟩;rcases hrow with hrow|⟨b,off,rfl,hrow⟩
  ·left;rw[hrow];simp
  ·right;exact⟨b,off,rfl,DR _ hrow⟩
theorem OT{t e n len:Nat}{x:Operand}{hi:Option Operand}(hlen:len<2^62)(hop:o.op=.slice t x none hi none)(hu:P.underlying t=some (.array len e))(hn:kH P e=some n)
 {id off:Nat} (hx:ev env x=.ptr id off) {h:Int} (hh:Fg env len hi=some h) (h0:0<=h) (h1:h<=len)
 (hk:k (iq o.dst env (.nC n id off h.toNat)) s):nB P C o env s k:=by
 refine .value fun β a w hst=>?_
 obtain⟨i,hi',hin⟩:=kR hn;have hv:=hst.ev x;rw[hx]at hv;simp only[AV.ok]at hv;obtain⟨b,hb,hxv⟩:=hv;refine⟨.slice (some ⟨b,off,none⟩) h.toNat len,w,β,env,s,_,?_,hst,?_,hk⟩
 ·have hsb:(Instr.sliceBounds false len len none (hi.map a.eval) none).run P w=.ok (0,h.toNat,len) w:=by
   rcases Ih hst hh with⟨rfl,rfl⟩|⟨yh,jh,rfl,eh⟩
   ·simp[Instr.sliceBounds]
   ·simp[Instr.sliceBounds,eh,Instr.sliceBound,asIntOf,h0,h1]
  simp[execOp,hop,Instr.sliceAt,bf hu,hxv,Instr.sureAddr,hsb,Go.sizeOf,typeInfo,hi'];simp[Addr.add]
 ·simp only[AV.ok];exact⟨b,len,hb,gB,rfl⟩
end
theorem kN.append{O:Own}{w:World}{b o:Nat}{vs us:List Value}(h:kN O w b o vs)(k:kN O w b (o+vs.length) us):kN O w b o (vs++us):=by
 intro j v hj;rw[List.getElem?_append]at hj;split at hj
 ·exact h j v hj
 ·rename_i hlt;have:=k _ v hj;have e1:o+vs.length+(j-vs.length)=o+j:=by omega
  rwa [e1]at this
theorem zj{O:Own}{w:World}{b e:Nat}:∀{xs:List D}{o:Nat},D.row O w b o e xs->
 ∃vs,vs.length=xs.length*e/\kN O w b o vs/\∀(O':Own)(w':World)(b' o':Nat),
  (∀b o v,w.cell? ⟨b,o,none⟩=some v->¬O b o->w'.cell? ⟨b,o,none⟩=some v/\¬O' b o)->kN O' w' b' o' vs->D.row O' w' b' o' e xs
 |[],o=>fun _=>⟨[],by simp,fun j v hj=>by simp at hj,fun _ _ _ _ _ _=>by simp[D.row]⟩
 |x::xs,o=>fun h=>by
  rw[D.ni]at h;obtain⟨⟨us,h1,h2,h3⟩,h4⟩:=h;obtain⟨vs,k1,k2,k3⟩:=zj h4;refine⟨us++vs,by simp[h1,k1,bH];omega,h2.append (by rw[h1];exact k2),fun O' w' b' o' hm hc=>?_⟩;rw[D.ni];refine⟨⟨us,h1,fun j v hj=>?_,?_⟩,k3 O' w' b' (o'+e) hm fun j v hj=>?_⟩
  ·have hlt:j<us.length:=(aP.1 hj).1;exact hc j v (by rw[aU hlt];exact hj)
  ·cases x with
   |agg cs=>exact D.jI hm _ _ h3
   |any=>obtain⟨v,h5,h6⟩:=h3;exact⟨v,h5,D.kL hm _ _ h6⟩
   |lit u=>obtain⟨v,h5,h6⟩:=h3;exact⟨v,h5,D.kL hm _ _ h6⟩
   |sl e' nl ys=>obtain⟨v,h5,h6⟩:=h3;exact⟨v,h5,D.kL hm _ _ h6⟩
  ·have:=hc (us.length+j) v (by rw[bK gB];simpa using hj);rw[h1]at this;rwa [cV]
theorem yo{O:Own}{w:World}{b e:Nat}:∀{xs ys:List D}{o:Nat},D.row O w b o e xs->D.row O w b (o+xs.length*e) e ys->D.row O w b o e (xs++ys)
 |[],ys,o=>fun _ h=>by simpa using h
 |x::xs,ys,o=>fun h k=>by
  rw[D.ni]at h;rw[cg,D.ni];refine⟨h.1,yo h.2 ?_⟩;have e1:o+(x::xs).length*e=o+e+xs.length*e:=by simp[bH];omega
  rwa [e1]at k
theorem wW{O:Own}{w:World}{b o:Nat}{c:Array Value}{t:Nat}{fr:Nat×Nat}{vs:List Value}(hh:w.heap[b]?=some (.cells c t fr))
 (hc:∀j v,vs[j]?=some v->c.toList[o+j]?=some v) (ho:∀j,j<vs.length->¬O b (o+j)) (h1:∀v∈vs,one v=true):kN O w b o vs:=by
 intro j v hj;have hlt:j<vs.length:=(aP.1 hj).1;refine⟨?_,ho j hlt,h1 v (bQ hj)⟩;simp only[World.cell?,hh,cE,au,aG];simpa using hc j v hj
theorem kN.one{O:Own}{w:World}{b o:Nat}{vs:List Value}(h:kN O w b o vs):∀v∈vs,one v=true:=fun v hv=>by
 obtain⟨i,hi⟩:=cK hv;exact(h i v hi).2.2
theorem yj{C:Ctx}{β:gU}{env:List AV}{s:gL}{a:Act}{w:World}(h:St C β env s a w){id t e n cap:Nat}{c:Array Value}{xs:List D}
 (hpl:mM (β id) (.tok (.slice (some ⟨w.heap.size,0,none⟩) n cap) n))
 (hsz:c.size=cap*e) (hn:n<=cap) (hcap:cap<2^63) (h1:∀v∈c.toList,one v=true) (hx:xs.length=n)
 (hrow:∀(O':Own)(w':World),(∀b o v,w.cell? ⟨b,o,none⟩=some v->¬C.gP β s b o->w'.cell? ⟨b,o,none⟩=some v/\¬O' b o)->
  kN O' w' w.heap.size 0 (c.toList.take (n*e))->D.row O' w' w.heap.size 0 e xs):
 ∃β',St C β' env (sset s id (.tok t e n)) a (w.alloc (.cells c t))/\
  AV.ok β' (C.gP β' (sset s id (.tok t e n))) (w.alloc (.cells c t)) (.own e id xs) (.slice (some ⟨w.heap.size,0,none⟩) n cap):=by
 obtain⟨h2,m⟩:=h.fresh (id:=id) (ob:=.tok t e n) (p:=.tok (.slice (some ⟨w.heap.size,0,none⟩) n cap) n) (c:=c) (t:=t) hpl
  (fun b o ho=>by
   obtain⟨i,ho⟩:=ho;by_cases hi:i=id
   ·subst hi;simp only[sat,aH,gM]at ho;obtain⟨cap',ho,_⟩:=ho;simp at ho;exact ho.1.symm
   ·simp[sat,hi]at ho)
  (fun b hb=>by
   simp only[gF,sat,aH,gM]at hb;obtain⟨cap',hb⟩:=hb;simp at hb;exact hb.1.symm)
  (fun β' F _ _ hp=>⟨_,hp,.inr ⟨w.heap.size,cap,c,rfl,dD,hsz,hn,hcap,h1⟩⟩)
 refine⟨_,h2,?_⟩;simp only[AV.ok,D.ok];refine⟨⟨_,cap,by rw[hx],⟨gB,hcap⟩,trivial,?_⟩,_,n,by simp[gM,Place.at],gB,fun _=>rfl⟩;right;refine⟨w.heap.size,0,rfl,hrow _ _ m.stays ?_⟩;refine wW dD (fun j v hj=>?_) (fun j hj hf=>?_) (fun v hv=>h1 v (bE hv))
 ·rw[bX]at hj;split at hj
  ·simpa using hj
  ·cases hj
 ·rcases hf with hf|hf
  ·have:=(h.inv.low _ _ hf).1;have:=h.inv.size;omega
  ·rcases vM hf with hf|hf
   ·have:=h.inv.Jj hf;omega
   ·obtain⟨i,hf⟩:=hf;by_cases hi:i=id
    ·subst hi;simp only[sat,aH,gM]at hf;obtain⟨_,_,hf⟩:=hf;have:(c.toList.take (n*e)).length<=n*e:=List.length_take_le _ _;omega
    ·simp[sat,hi]at hf
theorem Jk{C:Ctx}{β:gU}{env:List AV}{s:gL}{a:Act}{w:World}(h:St C β env s a w){id:Nat}(t e:Nat)(hd:sat s id=.dead):
 ∃β',St C β' env (sset s id (.tok t e 0)) a w/\AV.ok β' (C.gP β' (sset s id (.tok t e 0))) w (.own e id []) (.slice none 0 0):=by
 have hno:β id=.no:=by have:=h.inv.obs id;rw[hd]at this;exact this
 have hown:∀b o,own (gM β id (.tok (.slice none 0 0) 0)) (sset s id (.tok t e 0)) b o->own β s b o:=by
  intro b o ho;rcases vM ho with ho|ho
  ·exact ho
  ·obtain⟨i,ho⟩:=ho;by_cases hi:i=id
   ·subst hi;simp[sat,gM]at ho
   ·simp[sat,hi]at ho
 have hblk:∀i b,gF (gM β id (.tok (.slice none 0 0) 0)) (sset s id (.tok t e 0)) i b->gF β s i b:=by
  intro i b hb;rcases jH hb with⟨_,hb⟩|⟨_,hb⟩
  ·exact hb
  ·simp[gF,sat,gM]at hb
 have m:mT β s w (gM β id (.tok (.slice none 0 0) 0)) (sset s id (.tok t e 0)) w:=
  ⟨ay _,rfl,fun _ _ _ hc _=>hc,fun _ _ _=>rfl,fun b o ho=>.inl (hown b o ho),fun i b hb=>.inl ⟨i,hblk i b hb⟩,fun i=>by
   by_cases hi:i=id
   ·subst hi;rw[hno];trivial
   ·simp only[gM,hi,aG];exact .refl _⟩
 refine⟨_,h.move m (fun i=>?_) (fun i j b hi hj=>h.inv.inj i j b (hblk i b hi) (hblk j b hj)),?_⟩
 ·rw[jg];by_cases hi:i=id
  ·subst hi;simp only[aH];exact⟨.slice none 0 0,by simp[gM],.inl ⟨rfl,rfl⟩⟩
  ·simp only[hi,aG];exact(h.inv.obs i).wR m (by simp[gM,hi]) (fun _ _=>rfl) rfl
 ·simp only[AV.ok,D.ok];exact⟨⟨none,0,rfl,⟨ay _,gB⟩,trivial,.inl trivial⟩,_,0,by simp[gM,Place.at],ay _,fun _=>rfl⟩
section
variable{P:Program}{C:Ctx}{o:Oper}{env:List AV}{s:gL}{k:List AV->gL->Prop}
theorem pE{w:World}{size n len cap:Nat}{a:Option Addr}{vs:List Value}(hl:vs.length=n*size)
 (hc:vs=[]\/∃b o,a=some ⟨b,o,none⟩/\∀j v,vs[j]?=some v->w.cell? ⟨b,o+j,none⟩=some v):
 (Builtin.firstCells size n (.slice a len cap)).run P w=.ok vs.toArray w:=by
 rcases hc with rfl|⟨b,off,rfl,hc⟩
 ·cases a with
  |none=>simp[Builtin.firstCells]
  |some a=>simp[Builtin.firstCells,<-hl,loadCells,loadCellsFrom]
 ·have:=run_loadCells_list (P:=P) w ⟨b,off,none⟩ vs (fun j v hj=>by rw[dH];exact hc j v hj);rw[hl]at this;simpa[Builtin.firstCells]using this
theorem xK{w:World}(t u ty e e2:TypeId)(i:TypeInfo)(ht:P.underlying t=some (.slice e))(hu:P.underlying u=some (.slice e2))(hi:P.info? e=some i)
 (g sLen sCap:Nat) (cur:Array Value) (el:Nat) (hg:w.heap[g]?=some (.cells cur el (0,0)))
 (a:Option Addr) (m c:Nat) (news:List Value) (hl:news.length=m*i.size)
 (hnews:news=[]\/∃b o,a=some ⟨b,o,none⟩/\∀j v,news[j]?=some v->w.cell? ⟨b,o+j,none⟩=some v) (h1:∀u∈news,one u=true)
 (hroom:sLen+m<=sCap) (hfit:sLen*i.size+news.length<=cur.size):
 (Builtin.append_ #[t,u] ty #[.slice (some ⟨g,0,none⟩) sLen sCap,.slice a m c]).run P w=
  .ok (.slice (some ⟨g,0,none⟩) (sLen+m) sCap) (w.setRow g (cur.toList.take (sLen*i.size)++news++cur.toList.drop (sLen*i.size+news.length)).toArray):=by
 have hf:=pE (P:=P) (w:=w) (size:=i.size) (n:=m) (len:=m) (cap:=c) (a:=a) hl hnews;have hst:=eL P g (sLen*i.size) el news 0 cur w hg (by simpa using hfit) (fun v hv=>wT (h1 v hv));simp only[de]at hst;simp[Builtin.append_,bf ht,bf hu,Go.sizeOf,typeInfo,hi,Builtin.lenOf,hroom,hf,dH,hst]
theorem uG{w:World}(t u ty e e2:TypeId)(i:TypeInfo)(z:Value)(ht:P.underlying t=some (.slice e))(hu:P.underlying u=some (.slice e2))(hi:P.info? e=some i)(hz:i.zero=some z)
 (b:Option Addr) (sLen sCap:Nat) (olds:List Value) (hlo:olds.length=sLen*i.size)
 (holds:olds=[]\/∃b' o,b=some ⟨b',o,none⟩/\∀j v,olds[j]?=some v->w.cell? ⟨b',o+j,none⟩=some v)
 (a:Option Addr) (n c:Nat) (news:List Value) (hl:news.length=n*i.size)
 (hnews:news=[]\/∃b o,a=some ⟨b,o,none⟩/\∀j v,news[j]?=some v->w.cell? ⟨b,o+j,none⟩=some v)
 (hg:sCap<sLen+n) (h63:((sLen+n:Nat):Int)<=9223372036854775807) (hfit:Builtin.nextslicecap (sLen+n) sCap*i.bytes<=281474976710656):
 (Builtin.append_ #[t,u] ty #[.slice b sLen sCap,.slice a n c]).run P w=
  .ok (.slice (some ⟨w.heap.size,0,none⟩) (sLen+n) (grownCap w (sLen+n) sCap e))
   (w.drew.alloc (.cells (olds.toArray++news.toArray++Builtin.zeroCells z.cells (grownCap w (sLen+n) sCap e-(sLen+n))) e)):=by
 have hn:¬(sLen+n<=sCap):=by omega
 have h63':¬(9223372036854775807<((sLen:Int)+(n:Int))):=by omega
 have h48':¬(281474976710656<Builtin.nextslicecap (sLen+n) sCap*i.bytes):=by omega
 have hf:=pE (P:=P) (w:=w.drew) (size:=i.size) (n:=n) (len:=n) (cap:=c) (a:=a) hl (by simpa using hnews);have hfo:=pE (P:=P) (w:=w.drew) (size:=i.size) (n:=sLen) (len:=sLen) (cap:=sCap) (a:=b) hlo (by simpa using holds);simp[Builtin.append_,bf ht,bf hu,Go.sizeOf,typeInfo,zeroValue,hi,hz,Builtin.lenOf,hn,h63',h48',Question.forced,hf,hfo,newRow,grownCap];congr 2;apply cC;simp[aL]
theorem sd{z:Array Value}(h:∀v∈z.toList,one v=true)(n:Nat):∀v∈(Builtin.zeroCells z n).toList,one v=true:=by
 intro v hv;simp only[Builtin.zeroCells]at hv;simp at hv;obtain⟨i,hi,rfl⟩:=hv;by_cases hz:z.size=0
 ·simp[hz]at hi
 ·have hlt:i%z.size<z.size:=Nat.mod_lt _ gB;rw[eu z _ hlt];exact h _ (Array.getElem_mem_toList hlt)
theorem wq{α:Type}(xs ys:List α)(n:Nat)(h:xs.length=n):(xs++ys).take n=xs:=by subst h;simp
theorem LU{β:gU}{w:World}{y:AV}{v:Value}{e2 e:Nat}{ys:List D}(hy:AV.ok β (C.gP β s) w y v)(hs:qO y=some (e2,ys))(he:ys=[]\/e2=e):
 ∃a cap news,v=.slice a ys.length cap/\news.length=ys.length*e/\(∀u∈news,one u=true)/\
  (news=[]\/∃b o,a=some ⟨b,o,none⟩/\kN (C.gP β s) w b o news)/\
  ∀(O':Own)(w':World)(b' o':Nat),(∀b o v,w.cell? ⟨b,o,none⟩=some v->¬C.gP β s b o->w'.cell? ⟨b,o,none⟩=some v/\¬O' b o)->
   kN O' w' b' o' news->D.row O' w' b' o' e ys:=by
 obtain⟨a,cap,h1,_,_,h4⟩:=zn hy hs;rcases h4 with rfl|⟨b,off,rfl,h4⟩
 ·exact⟨a,cap,[],h1,by simp,by simp,.inl rfl,fun _ _ _ _ _ _=>by simp[D.row]⟩
 ·rcases he with rfl|rfl
  ·exact⟨_,cap,[],h1,by simp,by simp,.inl rfl,fun _ _ _ _ _ _=>by simp[D.row]⟩
  ·obtain⟨vs,k1,k2,k3⟩:=zj h4;exact⟨_,cap,vs,h1,k1,k2.one,.inr ⟨b,off,rfl,k2⟩,k3⟩
end
theorem J6{β β':gU}{O F:Own}{w w':World}(h:∀x v,AV.ok β O w x v->AV.ok β' F w' x v){ds:List D}{vs:List Value}(k:D.hM O w ds vs):D.hM F w' ds vs:=by
 rw[D.jQ]at k⊢;exact⟨k.1,fun i x v hx hv=>⟨(k.2 i x v hx hv).1,by have:=h (.d x) v (by simpa[AV.ok]using(k.2 i x v hx hv).2);simpa[AV.ok]using this⟩⟩
theorem tc{O:Own}{w:World}{xs ys:List D}{vs us:List Value}(h:D.hM O w xs vs)(k:D.hM O w ys us):D.hM O w (xs++ys) (vs++us):=by
 induction xs generalizing vs with
 |nil=>simp only[D.hM]at h;subst h;simpa using k
 |cons x xs ih=>
  simp only[D.hM]at h;obtain⟨v,r,rfl,h0,h1,h2⟩:=h;simp only[cg,D.hM];exact⟨v,r++us,rfl,h0,h1,ih h2⟩
theorem Hv{O:Own}{w:World}{b e:Nat}:∀{xs:List D}{o:Nat},D.row O w b o e xs->
 ∃vs,vs.length=xs.length*e/\kN O w b o vs/\D.hM O w (xs.flatMap gJ) vs
 |[],o=>fun _=>⟨[],by simp,fun j v hj=>by simp at hj,by simp[D.hM]⟩
 |x::xs,o=>fun h=>by
  rw[D.ni]at h;obtain⟨⟨us,h1,h2,h3⟩,h4⟩:=h;obtain⟨vs,k1,k2,k3⟩:=Hv h4;refine⟨us++vs,by simp[h1,k1,bH];omega,h2.append (by rw[h1];exact k2),?_⟩;rw[bJ];exact tc (J1 h3 h2) k3
theorem HE{β:gU}{O:Own}{w:World}{y:AV}{v:Value}{e2 e:Nat}{ys:List D}(hy:AV.ok β O w y v)(hs:qO y=some (e2,ys))(he:ys=[]\/e2=e):
 ∃a cap news,v=.slice a ys.length cap/\news.length=ys.length*e/\(∀u∈news,one u=true)/\
  (news=[]\/∃b o,a=some ⟨b,o,none⟩/\kN O w b o news)/\D.hM O w (ys.flatMap gJ) news:=by
 obtain⟨a,cap,h1,_,_,h4⟩:=zn hy hs;rcases h4 with rfl|⟨b,off,rfl,h4⟩
 ·exact⟨a,cap,[],h1,by simp,by simp,.inl rfl,by simp[D.hM]⟩
 ·rcases he with rfl|rfl
  ·exact⟨_,cap,[],h1,by simp,by simp,.inl rfl,by simp[D.hM]⟩
  ·obtain⟨vs,k1,k2,k3⟩:=Hv h4;exact⟨_,cap,vs,h1,k1,k2.one,.inr ⟨b,off,rfl,k2⟩,k3⟩
theorem St.same{C:Ctx}{β:gU}{env:List AV}{s s':gL}{a:Act}{w:World}(hst:St C β env s a w)(hsame:∀q,sat s' q=sat s q):St C β env s' a w:=by
 have hown:∀b o,own β s' b o<->own β s b o:=by intro b o;unfold own;simp only[hsame]
 have hblk:∀q b,gF β s' q b<->gF β s q b:=by intro q b;unfold gF;simp only[hsame]
 have m:mT β s w β s' w:=
  ⟨ay _,rfl,fun _ _ _ h _=>h,fun _ _ _=>rfl,fun b o h=>.inl ((hown b o).1 h),fun q b h=>.inl ⟨q,(hblk q b).1 h⟩,fun _=>.refl _⟩
 exact hst.move m (fun q=>by rw[hsame];exact(hst.inv.obs q).wR m rfl (fun _ _=>rfl) rfl) (fun p q b hp hq=>hst.inv.inj p q b ((hblk p b).1 hp) ((hblk q b).1 hq))
theorem Dy{C:Ctx}{β:gU}{env:List AV}{s:gL}{a:Act}{w:World}(h:St C β env s a w){id t e n cap:Nat}{c:Array Value}{cs:List D}{pre rest:List Value}
 (hpl:mM (β id) (.tok (.slice (some ⟨w.heap.size,0,none⟩) n cap) n))
 (hsz:c.size=cap*e) (hn:n<=cap) (hcap:cap<2^63) (h1:∀v∈c.toList,one v=true) (hl:cs.length=n*e)
 (hc:c.toList=pre++rest) (hcs:D.hM (C.gP β s) w cs pre):
 ∃β',St C β' env (sset s id (.iM t e n cs)) a (w.alloc (.cells c t))/\
  AV.ok β' (C.gP β' (sset s id (.iM t e n cs))) (w.alloc (.cells c t)) (.kG e id n) (.slice (some ⟨w.heap.size,0,none⟩) n cap):=by
 obtain⟨h2,m⟩:=h.fresh (id:=id) (ob:=.iM t e n cs) (p:=.tok (.slice (some ⟨w.heap.size,0,none⟩) n cap) n) (c:=c) (t:=t) hpl
  (fun b o ho=>by
   obtain⟨i,ho⟩:=ho;by_cases hi:i=id
   ·subst hi;simp only[sat,aH,gM]at ho;obtain⟨cap',ho⟩:=ho;simp at ho;exact ho.1.symm
   ·simp[sat,hi]at ho)
  (fun b hb=>by
   simp only[gF,sat,aH,gM]at hb;obtain⟨cap',hb⟩:=hb;simp at hb;exact hb.1.symm)
  (fun β' F hx _ hp=>⟨_,hp,hl,.inr ⟨w.heap.size,cap,c,rfl,dD,hsz,hn,hcap,h1,pre,rest,hc,J6 hx hcs⟩⟩)
 refine⟨_,h2,?_⟩;simp only[AV.ok];exact⟨_,n,by simp[gM,Place.at],ay _,fun _=>rfl,.inr ⟨_,cap,rfl,hn,hcap⟩⟩
theorem G2{C:Ctx}{β:gU}{env:List AV}{s:gL}{a:Act}{w:World}(h:St C β env s a w){id g t e n n' cap:Nat}{cs cs':List D}{vs vs':Array Value}{pre rest:List Value}
 (hs:sat s id=.iM t e n cs) (hb:β id=.tok (.slice (some ⟨g,0,none⟩) n cap) n) (hh:w.heap[g]?=some (.cells vs t (0,0)))
 (hnn:n<=n') (hsz:vs'.size=cap*e) (hn:n'<=cap) (hcap:cap<2^63) (h1:∀v∈vs'.toList,one v=true) (hl:cs'.length=n'*e)
 (hc:vs'.toList=pre++rest) (hcs:D.hM (C.gP β s) w cs' pre):
 ∃β',St C β' env (sset s id (.iM t e n' cs')) a (w.setRow g vs')/\
  AV.ok β' (C.gP β' (sset s id (.iM t e n' cs'))) (w.setRow g vs') (.kG e id n') (.slice (some ⟨g,0,none⟩) n' cap):=by
 have hbl:gF β s id g:=by unfold gF;rw[hs];exact⟨cap,hb⟩
 obtain⟨hst',m⟩:=h.Vk (id:=id) (b:=g) (ob:=.iM t e n' cs') (p:=.tok (.slice (some ⟨g,0,none⟩) n' cap) n') (w':=w.setRow g vs') hbl (by simp) (by simp[Gb])
  (fun b' hb'=>fL w g b' vs' (fun e=>hb' e))
  (fun o v _ hn=>absurd ⟨id,by rw[hs];exact⟨cap,hb⟩⟩ hn)
  (fun b' o ho=>by
   obtain⟨i,ho⟩:=ho;by_cases hi:i=id
   ·subst hi;simp only[sat,aH,gM]at ho;obtain⟨cap',ho⟩:=ho;simp at ho;obtain⟨rfl,_⟩:=ho;exact⟨i,by rw[hs];exact⟨cap,hb⟩⟩
   ·simp[sat,hi]at ho)
  (fun b' hb'=>by
   simp only[gF,sat,aH,gM]at hb';obtain⟨_,hb'⟩:=hb';simp at hb';exact hb'.1.symm)
  (by rw[hb];exact⟨_,_,rfl,hnn,fun e=>by subst e;rfl⟩)
  (fun β' F hx _ hp=>⟨_,hp,hl,.inr ⟨g,cap,vs',rfl,eH w g vs vs' t (0,0) hh,hsz,hn,hcap,h1,pre,rest,hc,J6 hx hcs⟩⟩)
 refine⟨_,hst',?_⟩;simp only[AV.ok];exact⟨_,n',by simp[gM,Place.at],ay _,fun _=>rfl,.inr ⟨_,cap,rfl,hn,hcap⟩⟩
theorem IX{C:Ctx}{β:gU}{env:List AV}{s:gL}{a:Act}{w:World}(h:St C β env s a w){id:Nat}(t e:Nat)(hd:sat s id=.dead):
 ∃β',St C β' env (sset s id (.iM t e 0 [])) a w/\AV.ok β' (C.gP β' (sset s id (.iM t e 0 []))) w (.kG e id 0) (.slice none 0 0):=by
 have hno:β id=.no:=by have:=h.inv.obs id;rw[hd]at this;exact this
 have hown:∀b o,own (gM β id (.tok (.slice none 0 0) 0)) (sset s id (.iM t e 0 [])) b o->own β s b o:=by
  intro b o ho;rcases vM ho with ho|ho
  ·exact ho
  ·obtain⟨i,ho⟩:=ho;by_cases hi:i=id
   ·subst hi;simp[sat,gM]at ho
   ·simp[sat,hi]at ho
 have hblk:∀i b,gF (gM β id (.tok (.slice none 0 0) 0)) (sset s id (.iM t e 0 [])) i b->gF β s i b:=by
  intro i b hb;rcases jH hb with⟨_,hb⟩|⟨_,hb⟩
  ·exact hb
  ·simp[gF,sat,gM]at hb
 have m:mT β s w (gM β id (.tok (.slice none 0 0) 0)) (sset s id (.iM t e 0 [])) w:=
  ⟨ay _,rfl,fun _ _ _ hc _=>hc,fun _ _ _=>rfl,fun b o ho=>.inl (hown b o ho),fun i b hb=>.inl ⟨i,hblk i b hb⟩,fun i=>by
   by_cases hi:i=id
   ·subst hi;rw[hno];trivial
   ·simp only[gM,hi,aG];exact .refl _⟩
 refine⟨_,h.move m (fun i=>?_) (fun i j b hi hj=>h.inv.inj i j b (hblk i b hi) (hblk j b hj)),?_⟩
 ·rw[jg];by_cases hi:i=id
  ·subst hi;simp only[aH];exact⟨.slice none 0 0,by simp[gM],by simp,.inl ⟨rfl,rfl⟩⟩
  ·simp only[hi,aG];exact(h.inv.obs i).wR m (by simp[gM,hi]) (fun _ _=>rfl) rfl
 ·simp only[AV.ok];exact⟨_,0,by simp[gM,Place.at],ay _,fun _=>rfl,.inl ⟨none,rfl,trivial⟩⟩
theorem NH{C:Ctx}{β:gU}{env:List AV}{s:gL}{a:Act}{w:World}(h:St C β env s a w){id t e e' n:Nat}{cs:List D}{v:Value}
 (hs:sat s id=.iM t e n cs) (hv:AV.ok β (C.gP β s) w (.kG e' id n) v):
 β id=.tok v n/\cs.length=n*e/\RW (C.gP β s) w t e n v cs:=by
 have ho:=h.inv.obs id;rw[hs]at ho;obtain⟨u,h1,h2,h3⟩:=ho;simp only[AV.ok]at hv;obtain⟨u',m,k1,k2,k3,k4⟩:=hv;rw[h1]at k1;obtain⟨rfl,rfl⟩:=k1;have:=k3 rfl;subst this;exact⟨h1,h2,h3⟩
section
variable{P:Program}{C:Ctx}{o:Oper}{env:List AV}{s:gL}{k:List AV->gL->Prop}
theorem B6{w:World}(t u ty e e2:TypeId)(i:TypeInfo)(ht:P.underlying t=some (.slice e))(hu:P.underlying u=some (.slice e2))(hi:P.info? e=some i)
 (ad:Option Addr) (c:Nat):(Builtin.append_ #[t,u] ty #[.slice none 0 0,.slice ad 0 c]).run P w=.ok (.slice none 0 0) w:=by
 have hf:=pE (P:=P) (w:=w) (size:=i.size) (n:=0) (len:=0) (cap:=c) (a:=ad) (vs:=[]) (by simp) (.inl rfl);simp[Builtin.append_,bf ht,bf hu,Go.sizeOf,typeInfo,hi,Builtin.lenOf,hf]
theorem Dx{β:gU}{a:Act}{w:World}(hst:St C β env s a w){t u ty e e2 sz by':Nat}{i:TypeInfo}{z:Value}
 (ht:P.underlying t=some (.slice e)) (hu:P.underlying u=some (.slice e2)) (hi:P.info? e=some i) (hz:i.zero=some z) (hsz:i.size=sz) (hb:i.bytes=by') (hb0:0<by')
 (hz1:z.cells.size=i.size) (hz2:∀v∈z.cells.toList,one v=true)
 {base:Option Addr} {sLen sCap:Nat} {cs:List D} {olds:List Value} (hlo:olds.length=sLen*sz) (hlo1:∀v∈olds,one v=true)
 (holds:olds=[]\/∃b' o,base=some ⟨b',o,none⟩/\∀j v,olds[j]?=some v->w.cell? ⟨b',o+j,none⟩=some v)
 (hcs:D.hM (C.gP β s) w cs olds)
 {ad:Option Addr} {c m:Nat} {ys:List D} {news:List Value} (hln:news.length=m*sz) (hln1:∀v∈news,one v=true)
 (hnews:news=[]\/∃b o,ad=some ⟨b,o,none⟩/\kN (C.gP β s) w b o news)
 (hys:D.hM (C.gP β s) w ys news)
 (hg:sCap<sLen+m) (hbd:(sLen+m)*by'<=2^47) {id:Nat} (hpl:mM (β id) (.tok (.slice (some ⟨w.heap.size,0,none⟩) (sLen+m) (grownCap w (sLen+m) sCap e)) (sLen+m))):
 ∃v w' β',(Builtin.append_ #[t,u] ty #[.slice base sLen sCap,.slice ad m c]).run P w=.ok v w'/\
  St C β' env (sset s id (.iM e sz (sLen+m) (cs++ys))) a w'/\AV.ok β' (C.gP β' (sset s id (.iM e sz (sLen+m) (cs++ys)))) w' (.kG sz id (sLen+m)) v:=by
 have hneed:sLen+m<=2^47:=bN (cL _ hb0) hbd;have hrun:=uG (P:=P) (w:=w) t u ty e e2 i z ht hu hi hz base sLen sCap olds (by rw[hsz];exact hlo) holds ad m c news (by rw[hsz];exact hln)
  (hnews.imp (fun x=>x) fun⟨b',o',h1,h2⟩=>⟨b',o',h1,fun j v hj=>(h2 j v hj).1⟩) hg gB (by rw[hb];exact growslice_fits hg (by simpa using hbd))
 have hcap1:=grownCap_ge w (sLen+m) sCap e;have hcap2:=eE w (sLen+m) sCap e (by unfold Go.maxLen;omega);have hcell:(olds.toArray++news.toArray++Builtin.zeroCells z.cells (grownCap w (sLen+m) sCap e-(sLen+m))).toList=olds++news++(Builtin.zeroCells z.cells (grownCap w (sLen+m) sCap e-(sLen+m))).toList:=by simp
 have hst':St C β env s a w.drew:=hst.drew;have hoks:=tc hcs hys;have hlen:=D.iy hoks;have hoks':D.hM (C.gP β s) w.drew (cs++ys) (olds++news):=D.jI (O:=C.gP β s) (w:=w) (w':=w.drew) (fun _ _ _ hc hn=>⟨hc,hn⟩) _ _ hoks;obtain⟨β',h1,h2⟩:=Dy hst' (id:=id) (t:=e) (e:=sz) (n:=sLen+m) (cap:=grownCap w (sLen+m) sCap e) (cs:=cs++ys)
  (c:=olds.toArray++news.toArray++Builtin.zeroCells z.cells (grownCap w (sLen+m) sCap e-(sLen+m))) (pre:=olds++news) hpl
  (by
   rw[dK,dK,fk,hz1,hsz];simp only[di,hlo,hln];rw[<-bH,<-bH];congr 1;omega)
  hcap1 (by unfold Go.maxLen at hcap2;omega)
  (fun v hv=>by
   rw[hcell]at hv;simp only[aI]at hv;rcases hv with(hv|hv)|hv
   ·exact hlo1 v hv
   ·exact hln1 v hv
   ·exact sd hz2 _ v hv)
  (by rw[<-hlen,aj,hlo,hln,bH]) hcell
  hoks'
 exact⟨_,_,β',hrun,h1,h2⟩
theorem P5{β:gU}{a:Act}{w:World}(hst:St C β env s a w){t u ty e e2 sz by':Nat}{i:TypeInfo}{z:Value}
 (ht:P.underlying t=some (.slice e)) (hu:P.underlying u=some (.slice e2)) (hi:P.info? e=some i) (hz:i.zero=some z) (hsz:i.size=sz) (hb:i.bytes=by') (hb0:0<by')
 (hz1:z.cells.size=i.size) (hz2:∀v∈z.cells.toList,one v=true)
 {j n:Nat} {cs:List D} (hsj:sat s j=.iM e sz n cs) {v:Value} (hx:AV.ok β (C.gP β s) w (.kG sz j n) v)
 {ad:Option Addr} {c m:Nat} {ys:List D} {news:List Value} (hln:news.length=m*sz) (hln1:∀v∈news,one v=true)
 (hnews:news=[]\/∃b o,ad=some ⟨b,o,none⟩/\kN (C.gP β s) w b o news)
 (hys:D.hM (C.gP β s) w ys news) (hbd:(n+m)*by'<=2^47):
 ∃v' w' β',(Builtin.append_ #[t,u] ty #[v,.slice ad m c]).run P w=.ok v' w'/\
  St C β' env (sset s j (.iM e sz (n+m) (cs++ys))) a w'/\AV.ok β' (C.gP β' (sset s j (.iM e sz (n+m) (cs++ys)))) w' (.kG sz j (n+m)) v':=by
 obtain⟨hbj,hcl,hg⟩:=NH hst hsj hx;rcases hg with⟨rfl,rfl⟩|⟨g,cap,vs,rfl,hh,h3,h4,h5,h6,pre,rest,h7,h8⟩
 ·have hc0:cs=[]:=bY.1 (by simpa using hcl);subst hc0;by_cases hm:m=0
  ·subst hm;have hn0:news=[]:=bY.1 (by simpa using hln);subst hn0;simp only[D.jQ]at hys;have hy0:ys=[]:=bY.1 (by simpa using hys.1.symm);subst hy0;have hsame:∀q,sat (sset s j (.iM e sz (0+0) (([]:List D)++[]))) q=sat s q:=by
    intro q;rw[jg];split
    ·rename_i hq;subst hq;rw[hsj];simp
    ·rfl
   refine⟨_,w,β,B6 (P:=P) (w:=w) t u ty e e2 i ht hu hi ad c,hst.same hsame,?_⟩;simp only[AV.ok]at hx⊢;exact hx
  ·obtain⟨v',w',β',h1,h2,h3⟩:=Dx (P:=P) hst (ty:=ty) ht hu hi hz hsz hb hb0 hz1 hz2 (base:=none) (sLen:=0) (sCap:=0) (cs:=[]) (olds:=[]) (by simp) (by simp) (.inl rfl) (by simp[D.hM])
    hln hln1 hnews hys (c:=c) gB hbd (id:=j) (by rw[hbj];exact⟨_,_,rfl,gB,fun h=>by omega⟩)
   exact⟨v',w',β',h1,h2,h3⟩
 ·have hpl:=D.iy h8;by_cases hroom:n+m<=cap
  ·have hfit:n*sz+news.length<=vs.size:=by
    rw[h3,hln,<-bH];exact cq _ hroom
   have hrun:=xK (P:=P) (w:=w) t u ty e e2 i ht hu hi g n cap vs e hh ad m c news (by rw[hsz];exact hln)
    (hnews.imp (fun x=>x) fun⟨b',o',q1,q2⟩=>⟨b',o',q1,fun j v hj=>(q2 j v hj).1⟩) hln1 hroom (by rw[hsz];exact hfit)
   rw[hsz]at hrun;have htk:vs.toList.take (n*sz)=pre:=by rw[h7];exact wq _ _ _ (by rw[hpl,hcl])
   have hoks:=tc h8 hys;have hlen:=D.iy hoks;obtain⟨β',h9,h10⟩:=G2 hst (n':=n+m) (cs':=cs++ys) (vs':=(vs.toList.take (n*sz)++news++vs.toList.drop (n*sz+news.length)).toArray) (pre:=pre++news) (rest:=vs.toList.drop (n*sz+news.length))
    hsj hbj hh gB
    (by simp only[di,aj,aY,bR,Array.length_toList];omega)
    hroom h5
    (fun v hv=>by
     simp only[aI]at hv;rcases hv with(hv|hv)|hv
     ·exact h6 v (bE hv)
     ·exact hln1 v hv
     ·exact h6 v (cI hv))
    (by rw[aj,hcl,<-D.iy hys,hln,bH])
    (by simp only[htk]) hoks
   exact⟨_,_,β',hrun,h9,h10⟩
  ·have hone:∀v∈pre,one v=true:=fun v hv=>h6 v (by rw[h7];exact bz _ hv)
   obtain⟨v',w',β',q1,q2,q3⟩:=Dx (P:=P) hst (ty:=ty) ht hu hi hz hsz hb hb0 hz1 hz2 (base:=some ⟨g,0,none⟩) (sLen:=n) (sCap:=cap) (cs:=cs) (olds:=pre) (by rw[hpl,hcl]) hone
    (.inr ⟨g,0,rfl,fun q v hq=>by
     simp only[World.cell?,hh,cE,au,aG,bk];have hlt:q<pre.length:=(aP.1 hq).1;have:vs.toList[q]?=some v:=by rw[h7,aU hlt];exact hq
     simpa using this⟩) h8
    hln hln1 hnews hys (c:=c) gB hbd (id:=j) (by rw[hbj];exact⟨_,_,rfl,gB,fun h=>by omega⟩)
   exact⟨v',w',β',q1,q2,q3⟩
end
section
variable{P:Program}{C:Ctx}{o:Oper}{env:List AV}{s:gL}{k:List AV->gL->Prop}
theorem C3{β:gU}{a:Act}{w:World}(hst:St C β env s a w){t u ty e e2 sz by':Nat}{i:TypeInfo}{z:Value}
 (ht:P.underlying t=some (.slice e)) (hu:P.underlying u=some (.slice e2)) (hi:P.info? e=some i) (hz:i.zero=some z) (hsz:i.size=sz) (hb:i.bytes=by') (hb0:0<by')
 (hz1:z.cells.size=i.size) (hz2:∀v∈z.cells.toList,one v=true)
 {base:Option Addr} {sLen sCap:Nat} {xs:List D} (hxl:xs.length=sLen) {olds:List Value} (hlo:olds.length=sLen*sz) (hlo1:∀v∈olds,one v=true)
 (holds:olds=[]\/∃b' o,base=some ⟨b',o,none⟩/\kN (C.gP β s) w b' o olds)
 (hrowX:∀(O':Own)(w':World)(b' o':Nat),(∀b o v,w.cell? ⟨b,o,none⟩=some v->¬C.gP β s b o->w'.cell? ⟨b,o,none⟩=some v/\¬O' b o)->
  kN O' w' b' o' olds->D.row O' w' b' o' sz xs)
 {ad:Option Addr} {c:Nat} {ys:List D} {news:List Value} (hln:news.length=ys.length*sz) (hln1:∀v∈news,one v=true)
 (hnews:news=[]\/∃b o,ad=some ⟨b,o,none⟩/\kN (C.gP β s) w b o news)
 (hrowY:∀(O':Own)(w':World)(b' o':Nat),(∀b o v,w.cell? ⟨b,o,none⟩=some v->¬C.gP β s b o->w'.cell? ⟨b,o,none⟩=some v/\¬O' b o)->
  kN O' w' b' o' news->D.row O' w' b' o' sz ys)
 (hg:sCap<sLen+ys.length) (hbd:(sLen+ys.length)*by'<=2^47) {id:Nat} (hpl:mM (β id) (.tok (.slice (some ⟨w.heap.size,0,none⟩) (sLen+ys.length) (grownCap w (sLen+ys.length) sCap e)) (sLen+ys.length))):
 ∃v w' β',(Builtin.append_ #[t,u] ty #[.slice base sLen sCap,.slice ad ys.length c]).run P w=.ok v w'/\
  St C β' env (sset s id (.tok e sz (sLen+ys.length))) a w'/\AV.ok β' (C.gP β' (sset s id (.tok e sz (sLen+ys.length)))) w' (.own sz id (xs++ys)) v:=by
 have hneed:sLen+ys.length<=2^47:=bN (cL _ hb0) hbd;have hrun:=uG (P:=P) (w:=w) t u ty e e2 i z ht hu hi hz base sLen sCap olds (by rw[hsz];exact hlo)
  (holds.imp (fun x=>x) fun⟨b',o',h1,h2⟩=>⟨b',o',h1,fun j v hj=>(h2 j v hj).1⟩) ad ys.length c news (by rw[hsz];exact hln)
  (hnews.imp (fun x=>x) fun⟨b',o',h1,h2⟩=>⟨b',o',h1,fun j v hj=>(h2 j v hj).1⟩) hg gB (by rw[hb];exact growslice_fits hg (by simpa using hbd))
 have hcap1:=grownCap_ge w (sLen+ys.length) sCap e;have hcap2:=eE w (sLen+ys.length) sCap e (by unfold Go.maxLen;omega);have hcell:(olds.toArray++news.toArray++Builtin.zeroCells z.cells (grownCap w (sLen+ys.length) sCap e-(sLen+ys.length))).toList=olds++news++(Builtin.zeroCells z.cells (grownCap w (sLen+ys.length) sCap e-(sLen+ys.length))).toList:=by simp
 have hlen:(olds++news).length=(sLen+ys.length)*sz:=by rw[aj,hlo,hln,bH]
 have hst':St C β env s a w.drew:=hst.drew;obtain⟨β',h1,h2⟩:=yj hst' (id:=id) (t:=e) (e:=sz) (n:=sLen+ys.length) (cap:=grownCap w (sLen+ys.length) sCap e)
  (c:=olds.toArray++news.toArray++Builtin.zeroCells z.cells (grownCap w (sLen+ys.length) sCap e-(sLen+ys.length))) (xs:=xs++ys) hpl
  (by
   rw[dK,dK,fk,hz1,hsz];simp only[di,hlo,hln];rw[<-bH,<-bH];congr 1;omega)
  hcap1 (by unfold Go.maxLen at hcap2;omega)
  (fun v hv=>by
   rw[hcell]at hv;simp only[aI]at hv;rcases hv with(hv|hv)|hv
   ·exact hlo1 v hv
   ·exact hln1 v hv
   ·exact sd hz2 _ v hv)
  (by simp[hxl])
  (fun O' w' hm hc=>by
   rw[hcell,wq _ _ _ hlen]at hc;refine yo (hrowX O' w' _ 0 hm fun j v hj=>?_) (hrowY O' w' _ _ hm fun j v hj=>?_)
   ·have hlt:j<olds.length:=(aP.1 hj).1;exact hc j v (by rw[aU hlt];exact hj)
   ·have:=hc (olds.length+j) v (by rw[bK gB];simpa using hj);rw[hlo]at this;rw[hxl];simpa[cV]using this)
 exact⟨_,_,β',hrun,h1,h2⟩
theorem Ch{C:Ctx}{β:gU}{env:List AV}{s:gL}{a:Act}{w:World}(h:St C β env s a w){t e n cap:Nat}{c:Array Value}{xs:List D}
 (hn:n<=cap) (hcap:cap<2^63) (h1:∀v∈c.toList,one v=true) (hx:xs.length=n)
 (hrow:∀(O':Own)(w':World),(∀b o v,w.cell? ⟨b,o,none⟩=some v->¬C.gP β s b o->w'.cell? ⟨b,o,none⟩=some v/\¬O' b o)->
  kN O' w' w.heap.size 0 (c.toList.take (n*e))->D.row O' w' w.heap.size 0 e xs):
 St C β env s a (w.alloc (.cells c t))/\D.ok (C.gP β s) (w.alloc (.cells c t)) (.sl e none xs) (.slice (some ⟨w.heap.size,0,none⟩) n cap):=by
 have hold:∀b,b<w.heap.size->(w.alloc (.cells c t)).heap[b]?=w.heap[b]?:=fun b hb=>Go.RowKit.Below.heap_alloc w _ b hb
 have hnew:(w.alloc (.cells c t)).heap[w.heap.size]?=some (.cells c t (0,0)):=World.alloc_heap_new w _;have hnf:∀o,¬C.gP β s w.heap.size o:=fun o hf=>by
  rcases hf with hf|hf
  ·have:=(h.inv.low _ _ hf).1;have:=h.inv.size;omega
  ·have:=h.inv.Jj hf;omega
 refine⟨h.grow (by simp) rfl hold,?_⟩;simp only[D.ok];refine⟨some ⟨w.heap.size,0,none⟩,cap,by rw[hx],by rw[hx];exact⟨hn,hcap⟩,trivial,.inr ⟨w.heap.size,0,rfl,hrow _ _ (fun b o v hc hn=>⟨?_,hn⟩) fun j v hj=>?_⟩⟩
 ·rw[<-hc];exact dw (hold b (tT hc))
 ·have hj':c.toList[j]?=some v:=by
   have hlt:=(aP.1 hj).1;rw[bX]at hj;split at hj
   ·exact hj
   ·cases hj
  refine⟨?_,hnf _,h1 v (bQ hj')⟩;simp only[World.cell?,hnew,cE,au,aG,bk];simpa using hj'
theorem MJ{β:gU}{a:Act}{w:World}(hst:St C β env s a w){t u ty e e2 sz by':Nat}{i:TypeInfo}{z:Value}
 (ht:P.underlying t=some (.slice e)) (hu:P.underlying u=some (.slice e2)) (hi:P.info? e=some i) (hz:i.zero=some z) (hsz:i.size=sz) (hb:i.bytes=by') (hb0:0<by')
 (hz2:∀v∈z.cells.toList,one v=true)
 {base:Option Addr} {sLen sCap:Nat} {xs:List D} (hxl:xs.length=sLen) {olds:List Value} (hlo:olds.length=sLen*sz) (hlo1:∀v∈olds,one v=true)
 (holds:olds=[]\/∃b' o,base=some ⟨b',o,none⟩/\kN (C.gP β s) w b' o olds)
 (hrowX:∀(O':Own)(w':World)(b' o':Nat),(∀b o v,w.cell? ⟨b,o,none⟩=some v->¬C.gP β s b o->w'.cell? ⟨b,o,none⟩=some v/\¬O' b o)->
  kN O' w' b' o' olds->D.row O' w' b' o' sz xs)
 {ad:Option Addr} {c:Nat} {ys:List D} {news:List Value} (hln:news.length=ys.length*sz) (hln1:∀v∈news,one v=true)
 (hnews:news=[]\/∃b o,ad=some ⟨b,o,none⟩/\kN (C.gP β s) w b o news)
 (hrowY:∀(O':Own)(w':World)(b' o':Nat),(∀b o v,w.cell? ⟨b,o,none⟩=some v->¬C.gP β s b o->w'.cell? ⟨b,o,none⟩=some v/\¬O' b o)->
  kN O' w' b' o' news->D.row O' w' b' o' sz ys)
 (hg:sCap<sLen+ys.length) (hbd:(sLen+ys.length)*by'<=2^47):
 ∃v w',(Builtin.append_ #[t,u] ty #[.slice base sLen sCap,.slice ad ys.length c]).run P w=.ok v w'/\St C β env s a w'/\D.ok (C.gP β s) w' (.sl sz none (xs++ys)) v:=by
 have hneed:sLen+ys.length<=2^47:=bN (cL _ hb0) hbd;have hrun:=uG (P:=P) (w:=w) t u ty e e2 i z ht hu hi hz base sLen sCap olds (by rw[hsz];exact hlo)
  (holds.imp (fun x=>x) fun⟨b',o',h1,h2⟩=>⟨b',o',h1,fun j v hj=>(h2 j v hj).1⟩) ad ys.length c news (by rw[hsz];exact hln)
  (hnews.imp (fun x=>x) fun⟨b',o',h1,h2⟩=>⟨b',o',h1,fun j v hj=>(h2 j v hj).1⟩) hg gB (by rw[hb];exact growslice_fits hg (by simpa using hbd))
 have hcap1:=grownCap_ge w (sLen+ys.length) sCap e;have hcap2:=eE w (sLen+ys.length) sCap e (by unfold Go.maxLen;omega);have hcell:(olds.toArray++news.toArray++Builtin.zeroCells z.cells (grownCap w (sLen+ys.length) sCap e-(sLen+ys.length))).toList=olds++news++(Builtin.zeroCells z.cells (grownCap w (sLen+ys.length) sCap e-(sLen+ys.length))).toList:=by simp
 have hlen:(olds++news).length=(sLen+ys.length)*sz:=by rw[aj,hlo,hln,bH]
 have hst':St C β env s a w.drew:=hst.drew;obtain⟨h1,h2⟩:=Ch hst' (t:=e) (e:=sz) (n:=sLen+ys.length) (cap:=grownCap w (sLen+ys.length) sCap e)
  (c:=olds.toArray++news.toArray++Builtin.zeroCells z.cells (grownCap w (sLen+ys.length) sCap e-(sLen+ys.length))) (xs:=xs++ys)
  hcap1 (by unfold Go.maxLen at hcap2;omega)
  (fun v hv=>by
   rw[hcell]at hv;simp only[aI]at hv;rcases hv with(hv|hv)|hv
   ·exact hlo1 v hv
   ·exact hln1 v hv
   ·exact sd hz2 _ v hv)
  (by simp[hxl])
  (fun O' w' hm hc=>by
   rw[hcell,wq _ _ _ hlen]at hc;refine yo (hrowX O' w' _ 0 hm fun j v hj=>?_) (hrowY O' w' _ _ hm fun j v hj=>?_)
   ·have hlt:j<olds.length:=(aP.1 hj).1;exact hc j v (by rw[aU hlt];exact hj)
   ·have:=hc (olds.length+j) v (by rw[bK gB];simpa using hj);rw[hlo]at this;rw[hxl];simpa[cV]using this)
 exact⟨_,_,hrun,h1,h2⟩
theorem CE{w:World}(t u ty e e2:TypeId)(i:TypeInfo)(ht:P.underlying t=some (.slice e))(hu:P.underlying u=some (.slice e2))(hi:P.info? e=some i)
 (base ad:Option Addr) (n c:Nat):(Builtin.append_ #[t,u] ty #[.slice base n n,.slice ad 0 c]).run P w=.ok (.slice base n n) w:=by
 have hf:=pE (P:=P) (w:=w) (size:=i.size) (n:=0) (len:=0) (cap:=c) (a:=ad) (vs:=[]) (by simp) (.inl rfl);cases base<;>simp[Builtin.append_,bf ht,bf hu,Go.sizeOf,typeInfo,hi,Builtin.lenOf,hf,storeCells]
theorem vz{w:World}(t u ty e e2:TypeId)(i:TypeInfo)(ht:P.underlying t=some (.slice e))(hu:P.underlying u=some (.slice e2))(hi:P.info? e=some i)
 (ad:Option Addr) (c:Nat):(Builtin.append_ #[t,u] ty #[.slice none 0 0,.slice ad 0 c]).run P w=.ok (.slice none 0 0) w:=by
 have hf:=pE (P:=P) (w:=w) (size:=i.size) (n:=0) (len:=0) (cap:=c) (a:=ad) (vs:=[]) (by simp) (.inl rfl);simp[Builtin.append_,bf ht,bf hu,Go.sizeOf,typeInfo,hi,Builtin.lenOf,hf]
theorem TK{c:Call}{d:Nat}(hop:o.op=.call c)(hc:c.callee=.builtin .append){x y:Operand}(ha:c.args=#[x,y]){t u:Nat}
 (hat:c.argTypes[0]?=some t) (hau:c.argTypes[1]?=some u) {e e2:Nat} (ht:P.underlying t=some (.slice e)) (hu:P.underlying u=some (.slice e2))
 {sz by':Nat} (hsz:kH P e=some sz) (hby:xV P e=some by') {z:List D} (hz:tw P e=some z) (hsz0:0<sz) (hb0:0<by')
 (hk:KP d e sz by' C.k (ev env x) (ev env y) env s fun x env s=>k (iq o.dst env x) s):nB P C o env s k:=by
 refine .value fun β a w hst=>?_
 obtain⟨i,zv,hi,hzv,hz1,hz2,_⟩:=n_ hz;have hisz:i.size=sz:=by obtain⟨i',h1,h2⟩:=kR hsz;rw[hi]at h1;cases h1;exact h2
 have hib:i.bytes=by':=by obtain⟨i',h1,h2⟩:=uS hby;rw[hi]at h1;cases h1;exact h2
 have hexec:∀v w',(Builtin.append_ #[t,u] o.type #[a.eval x,a.eval y]).run P w=.ok v w'->(execOp a.eval o).run P w=.ok (.value v) w':=by
  intro v w' hr;have hargs:c.argTypes[0]?=some t/\c.argTypes[1]?=some u:=⟨hat,hau⟩;have:∀w,(Builtin.append_ c.argTypes o.type #[a.eval x,a.eval y]).run P w=(Builtin.append_ #[t,u] o.type #[a.eval x,a.eval y]).run P w:=by
   intro w;unfold Builtin.append_;simp[hat,hau]
  simp[execOp,hop,resolve,hc,ha,invoke,builtin,this,hr]
 unfold KP at hk;split at hk
 ·exact hk.elim
 ·rename_i e3 ys hys;obtain⟨he3,hk⟩:=hk;obtain⟨ad,cap,news,hyv,hln,hln1,hnews,hrowY⟩:=LU (e:=sz) (hst.ev y) hys he3;have hx:=hst.ev x;split at hk
  ·rename_i e' j xs hxe;obtain⟨rfl,hsj,hbd,hk⟩:=hk;rw[hxe]at hx;simp only[AV.ok]at hx;obtain⟨hxd,uv,n,hbj,hle,heq⟩:=hx;have ho:=hst.inv.obs j;rw[hsj]at ho;obtain⟨u2,hb2,htok⟩:=ho;rw[hb2]at hbj;obtain⟨rfl,rfl⟩:=hbj;have hbj:=hb2;have hxv:a.eval x=u2:=heq rfl;obtain⟨ax,capx,hxa,hcx,_,hrx⟩:=hxd;rw[hxv]at hxa;rcases htok with⟨h1,h2⟩|⟨g,capg,vs,h1,h2,h3,h4,h5,h6⟩
   ·-- nil
    have hxs:xs=[]:=bY.1 h2;subst hxs;by_cases hy0:ys=[]
    ·subst hy0;have hrun:=vz (P:=P) (w:=w) t u o.type e e2 i ht hu hi ad cap;have hs':sset s j (.tok e e' ([]:List D).length)=sset s j (.tok e e' (([]:List D).length+([]:List D).length)):=by simp
     refine⟨_,w,β,env,sset s j (.tok e e' (([]:List D).length+([]:List D).length)),_,hexec _ _ (by rw[hxv,h1,hyv];exact hrun),?_,?_,hk⟩
     ·have hsame:∀q,sat (sset s j (.tok e e' (([]:List D).length+([]:List D).length))) q=sat s q:=by
       intro q;rw[jg];split
       ·rename_i hq;subst hq;rw[hsj];simp
       ·rfl
      have hown:∀b o,own β (sset s j (.tok e e' (([]:List D).length+([]:List D).length))) b o<->own β s b o:=by intro b o;unfold own;simp only[hsame]
      have hblk:∀q b,gF β (sset s j (.tok e e' (([]:List D).length+([]:List D).length))) q b<->gF β s q b:=by intro q b;unfold gF;simp only[hsame]
      have m:mT β s w β (sset s j (.tok e e' (([]:List D).length+([]:List D).length))) w:=
       ⟨ay _,rfl,fun _ _ _ h _=>h,fun _ _ _=>rfl,fun b o h=>.inl ((hown b o).1 h),fun q b h=>.inl ⟨q,(hblk q b).1 h⟩,fun _=>.refl _⟩
      exact hst.move m (fun q=>by rw[hsame];exact(hst.inv.obs q).wR m rfl (fun _ _=>rfl) rfl) (fun p q b hp hq=>hst.inv.inj p q b ((hblk p b).1 hp) ((hblk q b).1 hq))
     ·simp only[AV.ok,D.ok];exact⟨⟨none,0,rfl,⟨ay _,gB⟩,trivial,.inl rfl⟩,_,_,by rw[hbj];exact⟨rfl,rfl⟩,ay _,fun _=>h1.symm⟩
    ·have hpos:0<ys.length:=bM.2 hy0;obtain⟨v,w',β',hrun,hst',hok⟩:=C3 (P:=P) hst (ty:=o.type) ht hu hi hzv hisz hib hb0 hz1 hz2 (base:=none) (sLen:=0) (sCap:=0) (xs:=[]) rfl (olds:=[]) (by simp) (by simp) (.inl rfl)
      (fun _ _ _ _ _ _=>by simp[D.row]) hln hln1 hnews hrowY (c:=cap) gB (by simpa using hbd) (id:=j)
      (by rw[hbj];exact⟨_,_,rfl,by simp,fun h=>by simp at h;omega⟩)
     refine⟨v,w',β',env,_,_,hexec _ _ (by rw[hxv,h1,hyv];exact hrun),?_,?_,hk⟩
     ·simpa using hst'
     ·simpa using hok
   ·by_cases hroom:xs.length+ys.length<=capg
    ·-- room
     have hfit:xs.length*e'+news.length<=vs.size:=by
      rw[h3,hln,<-bH];exact cq _ hroom
     have hrun:=xK (P:=P) (w:=w) t u o.type e e2 i ht hu hi g xs.length capg vs e h2 ad ys.length cap news (by rw[hisz];exact hln)
      (hnews.imp (fun x=>x) fun⟨b',o',q1,q2⟩=>⟨b',o',q1,fun j v hj=>(q2 j v hj).1⟩) hln1 hroom (by rw[hisz];exact hfit)
     rw[hisz]at hrun;have hbl:gF β s j g:=by unfold gF;rw[hsj];exact⟨capg,by rw[hbj,h1]⟩
     obtain⟨hst',m⟩:=hst.Vk (id:=j) (b:=g) (ob:=.tok e e' (xs.length+ys.length))
      (p:=.tok (.slice (some ⟨g,0,none⟩) (xs.length+ys.length) capg) (xs.length+ys.length))
      (w':=w.setRow g (vs.toList.take (xs.length*e')++news++vs.toList.drop (xs.length*e'+news.length)).toArray)
      hbl (by simp) (by simp[Gb]) (fun b' hb'=>fL w g b' _ (fun e=>hb' e))
      (fun q v hcell hn=>by
       have hq:q<xs.length*e':=by
        rcases cB q (xs.length*e')with hlt|hge
        ·exact hlt
        ·exact absurd ⟨j,by rw[hsj];exact⟨capg,by rw[hbj,h1],hge⟩⟩ hn
       have hh':=eH w g vs (vs.toList.take (xs.length*e')++news++vs.toList.drop (xs.length*e'+news.length)).toArray e (0,0) h2;simp only[World.cell?,h2,cE,au,aG]at hcell;simp only[World.cell?,hh',cE,au,aG];rw[<-hcell];have hq2:q<(vs.toList.take (xs.length*e')).length:=by simp;omega
       simp only[List.getElem?_toArray];rw[aL,aU hq2,bX,ah hq];simp)
      (fun b' q hown=>by
       obtain⟨i',hown⟩:=hown;by_cases hi':i'=j
       ·subst hi';simp only[sat,aH,gM]at hown;obtain⟨cap',q1,q2⟩:=hown;simp at q1;obtain⟨rfl,_⟩:=q1;refine⟨i',?_⟩;rw[hsj];refine⟨capg,by rw[hbj,h1],bN (cq _ (Nat.le_add_right _ _)) q2⟩
       ·simp[sat,hi']at hown)
      (fun b' hb'=>by
       simp only[gF,sat,aH,gM]at hb';obtain⟨_,hb'⟩:=hb';simp at hb';exact hb'.1.symm)
      (by
       rw[hbj];refine⟨_,_,rfl,gB,fun hh=>?_⟩;have:ys.length=0:=by omega
       rw[h1,this];rfl)
      (fun β' F _ _ hp=>⟨_,hp,.inr ⟨g,capg,_,rfl,eH w g vs _ e (0,0) h2,by
       simp only[di,aj,aY,bR,Array.length_toList];omega,hroom,h5,fun v hv=>by
        simp only[aI]at hv;rcases hv with(hv|hv)|hv
        ·exact h6 v (bE hv)
        ·exact hln1 v hv
        ·exact h6 v (cI hv)⟩⟩)
     refine⟨_,_,_,env,_,_,hexec _ _ (by rw[hxv,h1,hyv];exact hrun),hst',?_,hk⟩;simp only[AV.ok,D.ok];refine⟨⟨_,capg,by rw[aj],by rw[aj];exact⟨hroom,h5⟩,trivial,.inr ⟨g,0,rfl,?_⟩⟩,_,xs.length+ys.length,by simp[gM,Place.at],by simp,fun _=>rfl⟩;have hh':=eH w g vs (vs.toList.take (xs.length*e')++news++vs.toList.drop (xs.length*e'+news.length)).toArray e (0,0) h2;have hforb:∀q,q<(xs.length+ys.length)*e'->¬C.gP (gM β j (.tok (.slice (some ⟨g,0,none⟩) (xs.length+ys.length) capg) (xs.length+ys.length))) (sset s j (.tok e e' (xs.length+ys.length))) g q:=by
      intro q hq hf;rcases hf with hf|hf
      ·-- the outer memory:g is not below,or it is owned
       have h7:=hst.inv.low _ _ hf;by_cases hq1:q<xs.length*e'
       ·rcases hrx with hrx|⟨b',o',q2,q3⟩
        ·subst hrx;simp at hq1
        ·obtain⟨us,k1,k2,_⟩:=zj q3;rw[h1]at hxa;simp only[cA]at hxa;rw[<-hxa.1]at q2;cases q2;have hlt:q<us.length:=by omega
         have:=(k2 q _ (aB hlt)).2.1;exact this (.inl (by simpa using hf))
       ·rcases hst.inv.rH g q ⟨j,by rw[hsj];exact⟨capg,by rw[hbj,h1],gB⟩⟩with h8|h8
        ·exact h7.2 h8
        ·omega
      ·rcases Ox hf with⟨i',hi',hf⟩|hf
       ·exact hi' (hst.inv.inj i' j g hf hbl)
       ·obtain⟨i',hf⟩:=hf;by_cases hi':i'=j
        ·subst hi';simp only[sat,aH,gM]at hf;obtain⟨_,_,hf⟩:=hf;omega
        ·simp[sat,hi']at hf
     have hXcells:D.row (C.gP (gM β j (.tok (.slice (some ⟨g,0,none⟩) (xs.length+ys.length) capg) (xs.length+ys.length))) (sset s j (.tok e e' (xs.length+ys.length))))
      (w.setRow g (vs.toList.take (xs.length*e')++news++vs.toList.drop (xs.length*e'+news.length)).toArray) g 0 e' xs:=by
      rcases hrx with hrx|⟨b',o',q2,q3⟩
      ·subst hrx;simp[D.row]
      ·rw[h1]at hxa;simp only[cA]at hxa;rw[<-hxa.1]at q2;cases q2;exact D.xJ m.stays _ _ _ _ q3
     refine yo hXcells (hrowY _ _ _ _ m.stays ?_);refine wW hh' (fun q v hq=>?_) (fun q hq=>hforb _ ?_) hln1
     ·have hq2:q<news.length:=(aP.1 hq).1;have hlen:(vs.toList.take (xs.length*e')).length=xs.length*e':=by simp;omega
      simp only[bk];rw[aL,bK gB,hlen,eO,aU hq2];exact hq
     ·rw[bH];omega
    ·-- no room
     have hrowX:∃olds:List Value,olds.length=xs.length*e'/\(∀v∈olds,one v=true)/\(olds=[]\/∃b' o,(some ⟨g,0,none⟩:Option Addr)=some ⟨b',o,none⟩/\kN (C.gP β s) w b' o olds)/\
      ∀(O':Own)(w':World)(b' o':Nat),(∀b o v,w.cell? ⟨b,o,none⟩=some v->¬C.gP β s b o->w'.cell? ⟨b,o,none⟩=some v/\¬O' b o)->
       kN O' w' b' o' olds->D.row O' w' b' o' e' xs:=by
      rcases hrx with hrx|⟨b',o',q2,q3⟩
      ·subst hrx;exact⟨[],by simp,by simp,.inl rfl,fun _ _ _ _ _ _=>by simp[D.row]⟩
      ·rw[h1]at hxa;simp only[cA]at hxa;rw[<-hxa.1]at q2;obtain⟨us,k1,k2,k3⟩:=zj q3;exact⟨us,k1,k2.one,.inr ⟨b',o',q2,k2⟩,k3⟩
     obtain⟨olds,o1,o2,o3,o4⟩:=hrowX;obtain⟨v,w',β',hrun,hst',hok⟩:=C3 (P:=P) hst (ty:=o.type) ht hu hi hzv hisz hib hb0 hz1 hz2 (base:=some ⟨g,0,none⟩) (sLen:=xs.length) (sCap:=capg) (xs:=xs) rfl (olds:=olds) o1 o2 o3 o4
      hln hln1 hnews hrowY (c:=cap) gB hbd (id:=j)
      (by rw[hbj];exact⟨_,_,rfl,gB,fun h=>by omega⟩)
     exact⟨v,w',β',env,_,_,hexec _ _ (by rw[hxv,h1,hyv];exact hrun),hst',hok,hk⟩
  ·rename_i e' j n hxe;obtain⟨rfl,hk⟩:=hk;split at hk
   ·rename_i t' e2' m' cs hsj;obtain⟨rfl,rfl,rfl,hbd,hk⟩:=hk;rw[hxe]at hx;obtain⟨ad',cap',news',hyv',hln',hln1',hnews',hys'⟩:=HE (e:=e2') (hst.ev y) hys he3;obtain⟨v,w',β',hrun,hst',hok⟩:=P5 (P:=P) hst (ty:=o.type) ht hu hi hzv hisz hib hb0 hz1 hz2 hsj hx (c:=cap') hln' hln1' hnews' hys' hbd;exact⟨v,w',β',env,_,_,hexec _ _ (by rw[hyv'];exact hrun),hst',hok,hk⟩
   ·exact hk.elim
  ·rename_i e4 hxe;obtain⟨hbd,hk⟩:=hk;rw[hxe]at hx;simp only[AV.ok,D.ok]at hx;obtain⟨ax,capx,hxv,_,hnl,_⟩:=hx;obtain⟨rfl,rfl⟩:=hnl;simp only[bB]at hxv;obtain⟨β1,env1,s1,f,hst1,hd1,hk1,_,hf⟩:=qK hk hst;by_cases hy0:ys=[]
   ·subst hy0;have hrun:=vz (P:=P) (w:=w) t u o.type e e2 i ht hu hi ad cap;obtain⟨β',hst',hok⟩:=Jk hst1 (id:=d) e sz hd1;exact⟨_,w,β',env1,_,_,hexec _ _ (by rw[hxv,hyv];exact hrun),hst',hok,hk1⟩
   ·have hpos:0<ys.length:=bM.2 hy0;have hno:β1 d=.no:=by have:=hst1.inv.obs d;rw[hd1]at this;exact this
    obtain⟨v,w',β',hrun,hst',hok⟩:=C3 (P:=P) hst1 (ty:=o.type) ht hu hi hzv hisz hib hb0 hz1 hz2 (base:=none) (sLen:=0) (sCap:=0) (xs:=[]) rfl (olds:=[]) (by simp) (by simp) (.inl rfl)
     (fun _ _ _ _ _ _=>by simp[D.row]) hln hln1
     (hnews.imp (fun x=>x) fun⟨b',o',q1,q2⟩=>⟨b',o',q1,q2.mono fun b o v hc hn=>⟨hc,fun h=>hn (hf b o h)⟩⟩)
     (fun O' w' b' o' hm hc=>hrowY O' w' b' o' (fun b o v q1 q2=>hm b o v q1 fun h=>q2 (hf b o h)) hc) (c:=cap) gB (by simpa using hbd) (id:=d)
     (by rw[hno];trivial)
    refine⟨v,w',β',env1,_,_,hexec _ _ (by rw[hxv,hyv];exact hrun),?_,?_,hk1⟩
    ·simpa using hst'
    ·simpa using hok
  ·rename_i e' xs hxe;obtain⟨rfl,hbd,hk⟩:=hk;rw[hxe]at hx;simp only[AV.ok]at hx;obtain⟨ax,hxv,hxd⟩:=hx;by_cases hy0:ys=[]
   ·subst hy0;have hrun:=CE (P:=P) (w:=w) t u o.type e e2 i ht hu hi ax ad xs.length cap;exact⟨_,w,β,env,s,_,hexec _ _ (by rw[hxv,hyv];exact hrun),hst,by simp only[AV.ok,bg];rw[<-hxv];exact hxd,hk⟩
   ·have hpos:0<ys.length:=bM.2 hy0;simp only[D.ok]at hxd;obtain⟨a2,cap2,q1,_,_,hrx⟩:=hxd;rw[hxv]at q1;cases q1;have hrowX:∃olds:List Value,olds.length=xs.length*e'/\(∀v∈olds,one v=true)/\(olds=[]\/∃b' o,ax=some ⟨b',o,none⟩/\kN (C.gP β s) w b' o olds)/\
     ∀(O':Own)(w':World)(b' o':Nat),(∀b o v,w.cell? ⟨b,o,none⟩=some v->¬C.gP β s b o->w'.cell? ⟨b,o,none⟩=some v/\¬O' b o)->
      kN O' w' b' o' olds->D.row O' w' b' o' e' xs:=by
     rcases hrx with hrx|⟨b',o',q2,q3⟩
     ·subst hrx;exact⟨[],by simp,by simp,.inl rfl,fun _ _ _ _ _ _=>by simp[D.row]⟩
     ·obtain⟨us,k1,k2,k3⟩:=zj q3;exact⟨us,k1,k2.one,.inr ⟨b',o',q2,k2⟩,k3⟩
    obtain⟨olds,o1,o2,o3,o4⟩:=hrowX;obtain⟨v,w',hrun,hst',hok⟩:=MJ (P:=P) hst (ty:=o.type) ht hu hi hzv hisz hib hb0 hz2 (base:=ax) (sLen:=xs.length) (sCap:=xs.length) (xs:=xs) rfl (olds:=olds) o1 o2 o3 o4
     hln hln1 hnews hrowY (c:=cap) gB hbd
    exact⟨v,w',β,env,s,_,hexec _ _ (by rw[hxv,hyv];exact hrun),hst',by simpa only[AV.ok]using hok,hk⟩
  ·exact hk.elim
theorem U2{c:Call}{d:Nat}(hop:o.op=.call c)(hc:c.callee=.builtin .append){x y:Operand}(ha:c.args=#[x,y]){t u:Nat}
 (hat:c.argTypes[0]?=some t) (hau:c.argTypes[1]?=some u) {e e2:Nat} (ht:P.underlying t=some (.slice e)) (hu:P.underlying u=some (.slice e2))
 {sz by':Nat} (hsz:kH P e=some sz) (hby:xV P e=some by') {z:List D} (hz:tw P e=some z) (hsz0:0<sz) (hb0:0<by')
 (hk:Gs d e sz by' C.k (ev env x) (ev env y) env s fun x env s=>k (iq o.dst env x) s):nB P C o env s k:=by
 intro hnd Q β a w hst;unfold Gs at hk;split at hk
 case h_2=>exact TK hop hc ha hat hau ht hu hsz hby hz hsz0 hb0 hk hnd Q β a w hst
 rename_i e2' ys e4 hys hxe;revert hnd Q β a w;show nB P C o env s k;refine .value fun β a w hst=>?_
 obtain⟨i,zv,hi,hzv,hz1,hz2,_⟩:=n_ hz;have hisz:i.size=sz:=by obtain⟨i',h1,h2⟩:=kR hsz;rw[hi]at h1;cases h1;exact h2
 have hib:i.bytes=by':=by obtain⟨i',h1,h2⟩:=uS hby;rw[hi]at h1;cases h1;exact h2
 have hexec:∀v w',(Builtin.append_ #[t,u] o.type #[a.eval x,a.eval y]).run P w=.ok v w'->(execOp a.eval o).run P w=.ok (.value v) w':=by
  intro v w' hr;have hargs:c.argTypes[0]?=some t/\c.argTypes[1]?=some u:=⟨hat,hau⟩;have:∀w,(Builtin.append_ c.argTypes o.type #[a.eval x,a.eval y]).run P w=(Builtin.append_ #[t,u] o.type #[a.eval x,a.eval y]).run P w:=by
   intro w;unfold Builtin.append_;simp[hat,hau]
  simp[execOp,hop,resolve,hc,ha,invoke,builtin,this,hr]
 obtain⟨he3,hbd,hk⟩:=hk;obtain⟨ad,cap,news,hyv,hln,hln1,hnews,hoks⟩:=HE (e:=sz) (hst.ev y) hys he3;have hx:=hst.ev x;rw[hxe]at hx;simp only[AV.ok,D.ok]at hx;obtain⟨ax,capx,hxv,_,hnl,_⟩:=hx;obtain⟨rfl,rfl⟩:=hnl;simp only[bB]at hxv;obtain⟨β1,env1,s1,f,hst1,hd1,hk1,_,hf⟩:=qK hk hst;have hmo:∀b o v,w.cell? ⟨b,o,none⟩=some v->¬C.gP β s b o->w.cell? ⟨b,o,none⟩=some v/\¬C.gP β1 s1 b o:=fun b o v hc hn=>⟨hc,fun h=>hn (hf b o h)⟩
 by_cases hy0:ys=[]
 ·subst hy0;have hrun:=vz (P:=P) (w:=w) t u o.type e e2 i ht hu hi ad cap;obtain⟨β',hst',hok⟩:=IX hst1 (id:=d) e sz hd1;exact⟨_,w,β',env1,_,_,hexec _ _ (by rw[hxv,hyv];exact hrun),hst',hok,hk1⟩
 ·have hpos:0<ys.length:=bM.2 hy0;have hno:β1 d=.no:=by have:=hst1.inv.obs d;rw[hd1]at this;exact this
  obtain⟨v,w',β',hrun,hst',hok⟩:=Dx (P:=P) hst1 (ty:=o.type) ht hu hi hzv hisz hib hb0 hz1 hz2 (base:=none) (sLen:=0) (sCap:=0) (cs:=[]) (olds:=[]) (by simp) (by simp) (.inl rfl) (by simp[D.hM])
   hln hln1 (hnews.imp (fun x=>x) fun⟨b',o',q1,q2⟩=>⟨b',o',q1,q2.mono hmo⟩) (D.jI hmo _ _ hoks) (c:=cap) gB (by simpa using hbd) (id:=d)
   (by rw[hno];trivial)
  refine⟨v,w',β',env1,_,_,hexec _ _ (by rw[hxv,hyv];exact hrun),?_,?_,hk1⟩
  ·simpa using hst'
  ·simpa using hok
end
theorem EN(off:Nat):∀(vs:List Value)(j:Nat)(cs:Array Value),off+j+vs.length<=cs.size->
 ((vs.zipIdx j).foldl (fun(cs:Array Value)(x:Value×Nat)=>cs.setIfInBounds (off+x.2) x.1) cs).toList=cs.toList.take (off+j)++vs++cs.toList.drop (off+j+vs.length)
 |[],j,cs,h=>by simp
 |v::vs,j,cs,h=>by
  simp only[ai]at h;rw[fI,List.foldl_cons,EN off vs (j+1) _ (by simp;omega)];have e:=Go.list_seg_step cs.toList (off+j) v vs (by simp;omega);simp only[Array.toList_setIfInBounds,ai]at e⊢;have e1:off+(j+1)=off+j+1:=by omega
  rw[e1];rw[<-e]
theorem BM{place:Nat->Option fU}{cells:Array Value}{i:Nat}{v:Value}{rest:List (Nat×Value)}{off size:Nat}
 (hp:place i=some (off,size)) (hs:v.cells.size=size) (hl:off+size<=cells.size):
 Instr.fill place cells ((i,v)::rest)=Instr.fill place (cells.toList.take off++v.cells.toList++cells.toList.drop (off+size)).toArray rest:=by
 have h1:¬(v.cells.size≠size||decide (off+v.cells.size>cells.size))=true:=by simp[hs];omega
 have e:v.cells.zipIdx.foldl (fun(cs:Array Value)(x:Value×Nat)=>cs.setIfInBounds (off+x.2) x.1) cells=
  (cells.toList.take off++v.cells.toList++cells.toList.drop (off+size)).toArray:=by
  apply cC;rw[<-Array.foldl_toList,Array.toList_zipIdx,EN off v.cells.toList 0 cells (by simp[hs];omega)];simp[hs]
 simp only[Instr.fill,hp];rw[az h1];rw[<-e]
section
variable{P:Program}{C:Ctx}{o:Oper}{env:List AV}{s:gL}{k:List AV->gL->Prop}
theorem mapM_some_length{α β:Type}(f:α->Option β):∀(l:List α){r:List β},l.mapM f=some r->r.length=l.length
 |[],r=>fun h=>by simp at h;subst h;rfl
 |x::xs,r=>fun h=>by
  simp only[cZ,dx,aC]at h;obtain⟨y,_,ys,h2,h3⟩:=h;cases h3;simp[mapM_some_length f xs h2]
theorem Dj{β:gU}{a:Act}{w:World}(hst:St C β env s a w){fs:Array Field}:
 ∀(ps:List (Nat×Operand))(qs:List (Nat×Nat×Operand))(cs cs':List AV)(cells:Array Value),
  ps.mapM (partsOf P fs)=some qs->pz env cs qs=some cs'->AV.hM β (C.gP β s) w cs cells.toList->(∀v∈cells.toList,one v=true)->
  ∀(places:Array fU),(∀(i:Nat)(f:Field)(n:Nat),fs[i]?=some f->kH P f.type=some n->places[i]?=some (f.offset,n))->
  ∃out:Array Value,Instr.fill (places[·]?) cells (ps.map fun p=>(p.1,a.eval p.2))=some out/\AV.hM β (C.gP β s) w cs' out.toList/\∀v∈out.toList,one v=true
 |[],qs,cs,cs',cells=>fun h1 h2 h3 h4 places _=>by
  simp at h1;subst h1;simp only[pz,aR]at h2;subst h2;exact⟨cells,rfl,h3,h4⟩
 |p::ps,qs,cs,cs',cells=>fun h1 h2 h3 h4 places hpl=>by
  simp only[cZ,dx,aC]at h1;obtain⟨q,hq,qs',h5,h6⟩:=h1;cases h6;unfold partsOf at hq;cases hf:fs[p.1]? with
  |none=>simp[hf]at hq
  |some f=>
   cases hn:kH P f.type with
   |none=>simp[hf,hn]at hq
   |some n=>
    simp only[hf,hn,aa,aT,aR]at hq;subst hq;simp only[pz]at h2;split at h2
    ·rename_i xs hxs;split at h2
     ·rename_i hcond;obtain⟨hx1,hx2⟩:=xy (hst.ev p.2) hxs;have hl:=AV.iy h3;have hlx:=AV.iy hx1;have hsz:(a.eval p.2).cells.size=n:=by rw[<-hcond.1,<-hlx];simp
      have hfc:=BM (place:=(places[·]?)) (rest:=ps.map fun p=>(p.1,a.eval p.2)) (hpl p.1 f n hf hn) hsz (cells:=cells) (by simp at hl;omega);obtain⟨out,h7,h8,h9⟩:=Dj hst ps qs' _ cs' (cells.toList.take f.offset++(a.eval p.2).cells.toList++cells.toList.drop (f.offset+n)).toArray h5 h2
       (by exact oH (oH (zg _ h3) hx1) (ze _ h3))
       (fun v hv=>by
        simp only[aI]at hv;rcases hv with(hv|hv)|hv
        ·exact h4 v (bE hv)
        ·exact hx2 v hv
        ·exact h4 v (cI hv)) places hpl
      exact⟨out,by rw[aX,hfc];exact h7,h8,h9⟩
     ·cases h2
    ·cases h2
theorem Hj{P:Program}{w:World}{f:Field->Sem fU}{g:Field->Nat×Nat}:∀(l:List Field),(∀x∈l,(f x).run P w=.ok (g x) w)->
 (l.mapM f).run P w=.ok (l.map g) w
 |[],_=>by simp
 |x::xs,h=>by
  rw[cZ];simp[h x (by simp),Hj xs fun y hy=>h y (by simp[hy])]
theorem Rq{t:Nat}{ps:Array (Nat×Operand)}(hop:o.op=.build t ps){fs:Array Field}(hu:P.underlying t=some (.struct fs)){z:List D}(hz:tw P t=some z)
 (hall:∀f∈fs.toList,(kH P f.type).isSome=true)
 {qs:List (Nat×Nat×Operand)} (hq:ps.toList.mapM (partsOf P fs)=some qs) {cs:List AV} (hc:pz env (z.map .d) qs=some cs)
 (hk:k (iq o.dst env (AV.mk cs)) s):nB P C o env s k:=by
 refine .value fun β a w hst=>?_
 obtain⟨i,u,hi,hzu,hsz,h1,rfl⟩:=n_ hz;have hrunz:∀w,(fs.mapM fun(f:Field)=>do pure (f.offset,<-Go.sizeOf f.type):Sem (Array fU)).run P w=.ok (fs.map fun(f:Field)=>(f.offset,(kH P f.type).getD 0)) w:=by
  intro w;rw[Array.mapM_eq_mapM_toList];have:=Hj (P:=P) (w:=w) (f:=fun(f:Field)=>do pure (f.offset,<-Go.sizeOf f.type)) (g:=fun(f:Field)=>(f.offset,(kH P f.type).getD 0)) fs.toList (fun f hf=>by
   have:=hall f hf;cases hn:kH P f.type with
   |none=>rw[hn]at this;cases this
   |some n=>
    obtain⟨i,hi,hin⟩:=kR hn;simp[Go.sizeOf,typeInfo,hi,hin])
  simp only[Sem.run_map,this,aJ];congr 1;apply cC;simp
 obtain⟨out,h2,h3,h4⟩:=Dj hst ps.toList qs _ cs u.cells hq hc (J5 (BE _ h1)) h1 (fs.map fun(f:Field)=>(f.offset,(kH P f.type).getD 0)) (fun i f n hf hn=>by
  simp[hf,hn])
 refine⟨.agg out,w,β,env,s,_,?_,hst,Oh h3 h4,hk⟩;have hmap:(ps.map fun p=>(p.1,a.eval p.2)).toList=ps.toList.map fun p=>(p.1,a.eval p.2):=by simp
 simp only[execOp,hop,Instr.build,zeroValue,typeInfo,aV,cW,aJ,hi,hzu,bl,bf hu];rw[hrunz];simp only[aJ,hmap,h2];simp
theorem OO{t:Nat}{ps:Array (Nat×Operand)}(hop:o.op=.build t ps){n e:Nat}(hu:P.underlying t=some (.array n e)){z:List D}(hz:tw P t=some z)(hps:ps.toList=[])
 {m:Nat} (hm:kH P e=some m) (hk:k (iq o.dst env (AV.mk (z.map .d))) s):nB P C o env s k:=by
 refine .value fun β a w hst=>?_
 obtain⟨i,u,hi,hzu,hsz,h1,rfl⟩:=n_ hz;obtain⟨j,hj,hjm⟩:=kR hm;refine⟨.agg u.cells,w,β,env,s,_,?_,hst,Oh (J5 (BE _ h1)) h1,hk⟩;have hps':ps=#[]:=cC hps;subst hps';simp[execOp,hop,Instr.build,zeroValue,typeInfo,aV,cW,aJ,hi,hzu,bl,bf hu,Go.sizeOf,hj,Instr.fill]
end
mutual
theorem J9{β:gU}{O:Own}{w:World}:∀(x:AV)(v:Value)(d:D),x.fin=some d->AV.ok β O w x v->D.ok O w d v
 |.d y,v,d=>fun hd h=>by simp only[AV.fin,aR]at hd;subst hd;simpa[AV.ok]using h
 |.own e id xs,v,d=>fun hd h=>by simp only[AV.fin,aR]at hd;subst hd;simp only[AV.ok]at h;exact h.1
 |.agg cs,v,d=>fun hd h=>by
  simp only[AV.fin,aF]at hd;obtain⟨ds,h1,rfl⟩:=hd;simp only[AV.ok]at h;obtain⟨vs,rfl,h2,h3⟩:=h;simp only[D.ok];exact⟨vs,rfl,Dk cs vs.toList ds h1 h2 h3⟩
 |.iB,v,d=>fun hd=>by simp[AV.fin]at hd
 |.ptr _ _,v,d=>fun hd=>by simp[AV.fin]at hd
 |.nC _ _ _ _,v,d=>fun hd=>by simp[AV.fin]at hd
 |.pv _,v,d=>fun hd=>by simp[AV.fin]at hd
 |.pa _,v,d=>fun hd=>by simp[AV.fin]at hd
 |.nk _,v,d=>fun hd=>by simp[AV.fin]at hd
 |.fn _ _ _,v,d=>fun hd=>by simp[AV.fin]at hd
 |.kG _ _ _,v,d=>fun hd=>by simp[AV.fin]at hd
 |.lT _ _ _,v,d=>fun hd=>by simp[AV.fin]at hd
 |.BS _ _,v,d=>fun hd=>by simp[AV.fin]at hd
 |.dp _,v,d=>fun hd=>by simp[AV.fin]at hd
 |.mp _,v,d=>fun hd=>by simp[AV.fin]at hd
theorem Dk{β:gU}{O:Own}{w:World}:∀(xs:List AV)(vs:List Value)(ds:List D),AV.mI xs=some ds->(∀u∈vs,one u=true)->AV.hM β O w xs vs->D.hM O w ds vs
 |[],vs,ds=>fun hd _ h=>by simp only[AV.mI,aR]at hd;subst hd;simpa[AV.hM,D.hM]using h
 |x::xs,vs,ds=>fun hd h1 h=>by
  simp only[AV.mI,aC,aF]at hd;obtain⟨y,h2,ys,h3,rfl⟩:=hd;simp only[AV.hM]at h;obtain⟨v,r,rfl,h4,h5⟩:=h;simp only[D.hM];exact⟨v,r,rfl,h1 v (by simp),J9 x v y h2 h4,Dk xs r ys h3 (fun u hu=>h1 u (by simp[hu])) h5⟩
end
theorem Ft{β:gU}{O:Own}{w:World}{x:AV}{v:Value}{d:D}(h:AV.ok β O w x v)(hd:x.fin=some d):D.ok O w d v:=J9 x v d hd h
theorem zC{O:Own}{w:World}{d:D}{v:Value}(h:D.ok O w d v):D.hM O w (gJ d) v.cells.toList:=by
 cases d with
 |agg cs=>simp only[D.ok]at h;obtain⟨vs,rfl,h⟩:=h;exact h
 |any=>
  have h':=h;simp only[D.ok]at h;have:v.cells=#[v]:=by cases v<;>simp_all[Value.cells,one]
  simp only[gJ,this,D.hM];exact⟨v,[],rfl,h,h',rfl⟩
 |lit u=>
  have h':=h;simp only[D.ok]at h;obtain⟨rfl,h1⟩:=h;have:v.cells=#[v]:=by cases v<;>simp_all[Value.cells,one]
  simp only[gJ,this,D.hM];exact⟨v,[],rfl,h1,h',rfl⟩
 |sl e nl xs=>
  have h':=h;simp only[D.ok]at h;obtain⟨a,cap,rfl,_⟩:=h;simp only[gJ,Value.cells,D.hM];exact⟨_,[],rfl,rfl,h',rfl⟩
def pZ(O:Own)(w:World)(e:Nat):List D->List Value->Prop
 |[],vs=>vs=[]
 |d::ds,vs=>∃us r,vs=us++r/\us.length=e/\D.hM O w (gJ d) us/\pZ O w e ds r
theorem pZ.length{O:Own}{w:World}{e:Nat}:∀{ds:List D}{vs:List Value},pZ O w e ds vs->vs.length=ds.length*e
 |[],vs=>fun h=>by simp only[pZ]at h;simp[h]
 |d::ds,vs=>fun h=>by
  simp only[pZ]at h;obtain⟨us,r,rfl,h1,_,h3⟩:=h;simp[h1,h3.length,bH];omega
theorem pZ.row{O O':Own}{w w':World}{b e:Nat}(hm:∀b o v,w.cell? ⟨b,o,none⟩=some v->¬O b o->w'.cell? ⟨b,o,none⟩=some v/\¬O' b o):
 ∀{ds:List D}{vs:List Value}{o:Nat},pZ O w e ds vs->kN O' w' b o vs->D.row O' w' b o e ds
 |[],vs,o=>fun _ _=>by simp[D.row]
 |d::ds,vs,o=>fun h hc=>by
  simp only[pZ]at h;obtain⟨us,r,rfl,h1,h2,h3⟩:=h;rw[D.ni];refine⟨⟨us,h1,fun j v hj=>?_,Kn (D.jI hm _ _ h2)⟩,h3.row hm fun j v hj=>?_⟩
  ·have hlt:j<us.length:=(aP.1 hj).1;exact hc j v (by rw[aU hlt];exact hj)
  ·have:=hc (us.length+j) v (by rw[bK gB];simpa using hj);rw[h1]at this;rwa [cV]
theorem pZ.flat{O:Own}{w:World}{e:Nat}:∀{ds:List D}{vs:List Value},pZ O w e ds vs->(∀x∈ds,(gJ x).length=e)->
 D.hM O w (ds.flatMap gJ) vs/\(ds.flatMap gJ).length=ds.length*e
 |[],vs,h,_=>by simp only[pZ]at h;subst h;simp[D.hM]
 |d::ds,vs,h,he=>by
  simp only[pZ]at h;obtain⟨us,r,rfl,h1,h2,h3⟩:=h;obtain⟨h4,h5⟩:=h3.flat fun x hx=>he x (by simp[hx])
  rw[bJ];exact⟨tc h2 h4,by rw[aj,h5,he d (by simp),ai,bH];omega⟩
section
variable{P:Program}{C:Ctx}{o:Oper}{env:List AV}{s:gL}{k:List AV->gL->Prop}
theorem AX{O:Own}{w:World}{e:Nat}:∀(ds:List D)(vs:List Value)(j:Nat)(cells:Array Value),(∀v∈vs,v.cells.size=e)->
 (∀(i:Nat)(d:D)(v:Value),ds[i]?=some d->vs[i]?=some v->D.ok O w d v)->ds.length=vs.length->cells.size=(j+vs.length)*e->
 ∃out:Array Value,Instr.fill (fun i=>some (i*e,e)) cells ((vs.zipIdx j).map fun p=>(p.2,p.1))=some out/\
  ∃us,pZ O w e ds us/\out.toList=cells.toList.take (j*e)++us
 |[],[],j,cells,_,_,_,h4=>⟨cells,rfl,[],rfl,by simp at h4;simp[<-h4,<-Array.length_toList,bp]⟩
 |[],_::_,_,_,_,_,h3,_=>by simp at h3
 |_::_,[],_,_,_,_,h3,_=>by simp at h3
 |d::ds,v::vs,j,cells,h1,h2,h3,h4=>by
  have hv:=h1 v (by simp);have hfit:j*e+e<=cells.size:=by
   rw[h4,<-Nat.succ_mul];exact cq _ (by simp)
  have hfc:=BM (place:=fun i=>some (i*e,e)) (i:=j) (rest:=(vs.zipIdx (j+1)).map fun p=>(p.2,p.1)) rfl hv hfit;have hsz:(cells.toList.take (j*e)++v.cells.toList++cells.toList.drop (j*e+e)).length=(j+1+vs.length)*e:=by
   simp[hv];rw[h4]at hfit⊢;simp only[ai]at hfit⊢;have:(j+1+vs.length)*e=(j+(vs.length+1))*e:=by congr 1;omega
   rw[this];omega
  obtain⟨out,h5,us,h6,h7⟩:=AX ds vs (j+1) (cells.toList.take (j*e)++v.cells.toList++cells.toList.drop (j*e+e)).toArray
   (fun u hu=>h1 u (by simp[hu])) (fun i d u hd hu=>h2 (i+1) d u (by simpa using hd) (by simpa using hu)) (by simpa using h3) (by simpa using hsz)
  refine⟨out,by rw[fI,aX,hfc];exact h5,v.cells.toList++us,?_,?_⟩
  ·simp only[pZ];exact⟨_,_,rfl,by simpa using hv,zC (h2 0 d v rfl rfl),h6⟩
  ·rw[h7];have hl:(cells.toList.take (j*e)++v.cells.toList).length=(j+1)*e:=by
    simp[hv,bH];omega
   rw[fN hl];simp
theorem wL:∀{xs:List AV}{ds:List D},AV.mI xs=some ds->ds.length=xs.length/\∀(i:Nat)(x:AV)(d:D),xs[i]?=some x->ds[i]?=some d->x.fin=some d
 |[],ds=>fun h=>by simp only[AV.mI,aR]at h;subst h;simp
 |x::xs,ds=>fun h=>by
  simp only[AV.mI,aC,aF]at h;obtain⟨y,h1,ys,h2,rfl⟩:=h;obtain⟨h3,h4⟩:=wL h2;refine⟨by simp[h3],fun i z d hz hd=>?_⟩;cases i with
  |zero=>simp at hz hd;subst hz;subst hd;exact h1
  |succ i=>exact h4 i z d (by simpa using hz) (by simpa using hd)
theorem Bx{z:Array Value}(h:∀v∈z.toList,one v=true)(n:Nat)(hz:n=0\/0<z.size):∀v∈((Array.range n).map fun i=>z[i%z.size]!).toList,one v=true:=by
 intro v hv;simp at hv;obtain⟨i,hi,rfl⟩:=hv;rcases hz with rfl|hz
 ·omega
 ·have hlt:i%z.size<z.size:=Nat.mod_lt _ hz;rw[eu z _ hlt];exact h _ (Array.getElem_mem_toList hlt)
theorem Yr{d t n:Nat}{ps:Array (Nat×Operand)}(hop:o.op=.buildSlice t n ps){e sz:Nat}(ht:P.underlying t=some (.slice e))(hsz:kH P e=some sz)
 {z:List D} (hz:tw P e=some z) (hn:n*sz<=2^24) (hsz0:0<sz) {xs:List Operand} (hxs:uB n ps.toList=some xs)
 {ds:List D} (hds:AV.mI (xs.map (ev env))=some ds) (hel:∀x∈ds,(gJ x).length=sz)
 (hk:vK C.k d env s fun env s _=>k (iq o.dst env (.own sz d ds)) (sset s d (.tok e sz ds.length))):nB P C o env s k:=by
 refine .value fun β a w hst=>?_
 obtain⟨i,u,hi,hzu,hzs,h1,_⟩:=n_ hz;have hisz:i.size=sz:=by obtain⟨i',h1,h2⟩:=kR hsz;rw[hi]at h1;cases h1;exact h2
 have hxs':ps.toList.map (·.1)=List.range n/\ps.toList.map (·.2)=xs:=by
  unfold uB at hxs;split at hxs
  ·cases hxs;exact⟨by assumption,rfl⟩
  ·cases hxs
 have hlen:xs.length=n:=by rw[<-hxs'.2];simp;have:=aO List.length hxs'.1;simpa using this
 obtain⟨hdl,hdv⟩:=wL hds;have hdl':ds.length=n:=by rw[hdl,aM,hlen]
 have hok:∀(i:Nat)(d:D)(v:Value),ds[i]?=some d->(xs.map a.eval)[i]?=some v->D.ok (C.gP β s) w d v:=by
  intro i d v hd hv;rw[bq]at hv;cases hx:xs[i]? with
  |none=>rw[hx]at hv;cases hv
  |some x=>
   rw[hx]at hv;cases hv;exact Ft (hst.ev x) (hdv i (ev env x) d (by rw[bq,hx];rfl) hd)
 have hcs:∀v∈xs.map a.eval,v.cells.size=sz:=by
  intro v hv;obtain⟨i,hi⟩:=cK hv;have hlt:i<ds.length:=by have:=(aP.1 hi).1;simp at this;omega
  have h2:=D.iy (zC (hok i _ v (aB hlt) hi));rw[hel _ (aA hlt)]at h2;simpa using h2
 have hzz:∀v∈((Array.range (n*sz)).map fun i=>u.cells[i%u.cells.size]!).toList,one v=true:=Bx h1 _ (.inr gB);obtain⟨out,h2,us,h3,h4⟩:=AX (O:=C.gP β s) (w:=w) (e:=sz) ds (xs.map a.eval) 0 ((Array.range (n*sz)).map fun i=>u.cells[i%u.cells.size]!) hcs hok (by simp[hdl',hlen]) (by simp[hlen]);simp only[ew,eY,bw]at h4;have hzip:((xs.map a.eval).zipIdx 0).map (fun p=>(p.2,p.1))=(ps.map fun p=>(p.1,a.eval p.2)).toList:=by
  rw[ei];apply dJ;intro j;simp only[bq,fh];have e1:=aO (·[j]?) hxs'.1;have e2:=aO (·[j]?) hxs'.2;simp only[bq]at e1 e2;cases hp:ps.toList[j]? with
  |none=>rw[hp]at e2;simp at e2;simpa using e2
  |some p=>
   rw[hp]at e1 e2;simp at e1 e2;rw[<-e2];have hj:j<n:=by
    rcases cB j n with h|h
    ·exact h
    ·rw[bI (by simpa using h)]at e1;cases e1
   rw[dy hj]at e1;cases e1;simp
 rw[hzip]at h2;obtain⟨β1,env1,s1,f,hst1,hd1,hk1,_,hf⟩:=qK hk hst;have hno:β1 d=.no:=by have:=hst1.inv.obs d;rw[hd1]at this;exact this
 have hul:=h3.length;have hEone:∀{ds:List D}{us:List Value},pZ (C.gP β s) w sz ds us->∀v∈us,one v=true:=by
  intro ds;induction ds with
  |nil=>intro us h v hv;simp only[pZ]at h;subst h;cases hv
  |cons x xs ih=>
   intro us h v hv;simp only[pZ]at h;obtain⟨p,r,rfl,_,h6,h7⟩:=h;rcases aI.1 hv with hv|hv
   ·obtain⟨i,hi⟩:=cK hv;have hlt:i<(gJ x).length:=by rw[<-D.iy h6];exact(aP.1 hi).1
    exact((D.jQ.1 h6).2 i _ v (aB hlt) hi).1
   ·exact ih h7 v hv
 obtain⟨β',hst',hok'⟩:=yj hst1 (id:=d) (t:=e) (e:=sz) (n:=ds.length) (cap:=ds.length) (c:=out) (xs:=ds) (by rw[hno];trivial)
  (by rw[<-hul,<-h4];simp) (ay _) (by rw[hdl'];have:n<=n*sz:=cL _ hsz0;omega)
  (by rw[h4];exact hEone h3) rfl
  (fun O' w' hm hc=>by
   rw[h4,<-hul,bp]at hc;exact h3.row (fun b o v q1 q2=>hm b o v q1 fun h=>q2 (hf b o h)) hc)
 refine⟨.slice (some ⟨w.heap.size,0,none⟩) ds.length ds.length,_,β',env1,_,_,?_,hst',hok',hk1⟩;have hbig:¬(n*i.size>2^24):=by rw[hisz];omega
 rw[hdl'];rw[hisz]at hbig;have hrun:(Instr.buildSlice t n (ps.map fun(i,x)=>(i,a.eval x))).run P w=.ok (.slice (some ⟨w.heap.size,0,none⟩) n n) (w.alloc (.cells out e)):=by
  simp only[Instr.buildSlice,aV,bf ht,aJ,Go.sizeOf,typeInfo,cW,hi,bl,hisz];rw[az hbig];by_cases h0:n*sz=0
  ·have he:((Array.range (n*sz)).map fun i=>u.cells[i%u.cells.size]!)=#[]:=by rw[h0];simp
   have he':((Array.range (n*sz)).map fun i=>(#[]:Array Value)[i%(#[]:Array Value).size]!)=#[]:=by rw[h0];simp
   rw[he,<-he']at h2;rw[ah h0];simp only[bl,aJ,h2,aV,newRow,ej,dF]
  ·rw[az h0];simp only[zeroValue,typeInfo,aV,cW,hi,hzu,bl,aJ,h2,newRow,ej,dF]
 simp only[execOp,hop,aV,hrun,aJ,bl]
theorem U4{d t n:Nat}{ps:Array (Nat×Operand)}(hop:o.op=.buildSlice t n ps){e sz:Nat}(ht:P.underlying t=some (.slice e))(hsz:kH P e=some sz)
 {z:List D} (hz:tw P e=some z) (hn:n*sz<=2^24) (hsz0:0<sz) {xs:List Operand} (hxs:uB n ps.toList=some xs)
 {ds:List D} (hds:AV.mI (xs.map (ev env))=some ds) (hel:∀x∈ds,(gJ x).length=sz)
 (hk:vK C.k d env s fun env s _=>k (iq o.dst env (.kG sz d ds.length)) (sset s d (.iM e sz ds.length (ds.flatMap gJ)))):nB P C o env s k:=by
 refine .value fun β a w hst=>?_
 obtain⟨i,u,hi,hzu,hzs,h1,_⟩:=n_ hz;have hisz:i.size=sz:=by obtain⟨i',h1,h2⟩:=kR hsz;rw[hi]at h1;cases h1;exact h2
 have hxs':ps.toList.map (·.1)=List.range n/\ps.toList.map (·.2)=xs:=by
  unfold uB at hxs;split at hxs
  ·cases hxs;exact⟨by assumption,rfl⟩
  ·cases hxs
 have hlen:xs.length=n:=by rw[<-hxs'.2];simp;have:=aO List.length hxs'.1;simpa using this
 obtain⟨hdl,hdv⟩:=wL hds;have hdl':ds.length=n:=by rw[hdl,aM,hlen]
 have hok:∀(i:Nat)(d:D)(v:Value),ds[i]?=some d->(xs.map a.eval)[i]?=some v->D.ok (C.gP β s) w d v:=by
  intro i d v hd hv;rw[bq]at hv;cases hx:xs[i]? with
  |none=>rw[hx]at hv;cases hv
  |some x=>
   rw[hx]at hv;cases hv;exact Ft (hst.ev x) (hdv i (ev env x) d (by rw[bq,hx];rfl) hd)
 have hcs:∀v∈xs.map a.eval,v.cells.size=sz:=by
  intro v hv;obtain⟨i,hi⟩:=cK hv;have hlt:i<ds.length:=by have:=(aP.1 hi).1;simp at this;omega
  have h2:=D.iy (zC (hok i _ v (aB hlt) hi));rw[hel _ (aA hlt)]at h2;simpa using h2
 have hzz:∀v∈((Array.range (n*sz)).map fun i=>u.cells[i%u.cells.size]!).toList,one v=true:=Bx h1 _ (.inr gB);obtain⟨out,h2,us,h3,h4⟩:=AX (O:=C.gP β s) (w:=w) (e:=sz) ds (xs.map a.eval) 0 ((Array.range (n*sz)).map fun i=>u.cells[i%u.cells.size]!) hcs hok (by simp[hdl',hlen]) (by simp[hlen]);simp only[ew,eY,bw]at h4;have hzip:((xs.map a.eval).zipIdx 0).map (fun p=>(p.2,p.1))=(ps.map fun p=>(p.1,a.eval p.2)).toList:=by
  rw[ei];apply dJ;intro j;simp only[bq,fh];have e1:=aO (·[j]?) hxs'.1;have e2:=aO (·[j]?) hxs'.2;simp only[bq]at e1 e2;cases hp:ps.toList[j]? with
  |none=>rw[hp]at e2;simp at e2;simpa using e2
  |some p=>
   rw[hp]at e1 e2;simp at e1 e2;rw[<-e2];have hj:j<n:=by
    rcases cB j n with h|h
    ·exact h
    ·rw[bI (by simpa using h)]at e1;cases e1
   rw[dy hj]at e1;cases e1;simp
 rw[hzip]at h2;obtain⟨β1,env1,s1,f,hst1,hd1,hk1,_,hf⟩:=qK hk hst;have hno:β1 d=.no:=by have:=hst1.inv.obs d;rw[hd1]at this;exact this
 have hul:=h3.length;have hEone:∀{ds:List D}{us:List Value},pZ (C.gP β s) w sz ds us->∀v∈us,one v=true:=by
  intro ds;induction ds with
  |nil=>intro us h v hv;simp only[pZ]at h;subst h;cases hv
  |cons x xs ih=>
   intro us h v hv;simp only[pZ]at h;obtain⟨p,r,rfl,_,h6,h7⟩:=h;rcases aI.1 hv with hv|hv
   ·obtain⟨i,hi⟩:=cK hv;have hlt:i<(gJ x).length:=by rw[<-D.iy h6];exact(aP.1 hi).1
    exact((D.jQ.1 h6).2 i _ v (aB hlt) hi).1
   ·exact ih h7 v hv
 obtain⟨hfl,hfe⟩:=h3.flat hel;obtain⟨β',hst',hok'⟩:=Dy hst1 (id:=d) (t:=e) (e:=sz) (n:=ds.length) (cap:=ds.length) (c:=out) (cs:=ds.flatMap gJ) (pre:=us) (rest:=[]) (by rw[hno];trivial)
  (by rw[<-hul,<-h4];simp) (ay _) (by rw[hdl'];have:n<=n*sz:=cL _ hsz0;omega)
  (by rw[h4];exact hEone h3) hfe (by rw[h4];simp) (D.jI (fun _ _ _ hc hn=>⟨hc,fun h=>hn (hf _ _ h)⟩) _ _ hfl)
 refine⟨.slice (some ⟨w.heap.size,0,none⟩) ds.length ds.length,_,β',env1,_,_,?_,hst',hok',hk1⟩;have hbig:¬(n*i.size>2^24):=by rw[hisz];omega
 rw[hdl'];rw[hisz]at hbig;have hrun:(Instr.buildSlice t n (ps.map fun(i,x)=>(i,a.eval x))).run P w=.ok (.slice (some ⟨w.heap.size,0,none⟩) n n) (w.alloc (.cells out e)):=by
  simp only[Instr.buildSlice,aV,bf ht,aJ,Go.sizeOf,typeInfo,cW,hi,bl,hisz];rw[az hbig];by_cases h0:n*sz=0
  ·have he:((Array.range (n*sz)).map fun i=>u.cells[i%u.cells.size]!)=#[]:=by rw[h0];simp
   have he':((Array.range (n*sz)).map fun i=>(#[]:Array Value)[i%(#[]:Array Value).size]!)=#[]:=by rw[h0];simp
   rw[he,<-he']at h2;rw[ah h0];simp only[bl,aJ,h2,aV,newRow,ej,dF]
  ·rw[az h0];simp only[zeroValue,typeInfo,aV,cW,hi,hzu,bl,aJ,h2,newRow,ej,dF]
 simp only[execOp,hop,aV,hrun,aJ,bl]
theorem EK{e:Nat}:∀(vs:List Value)(j:Nat)(cells:Array Value),(∀v∈vs,v.cells.size=e)->cells.size=(j+vs.length)*e->
 ∃out:Array Value,Instr.fill (fun i=>some (i*e,e)) cells ((vs.zipIdx j).map fun p=>(p.2,p.1))=some out/\
  out.toList=cells.toList.take (j*e)++vs.flatMap fun v=>v.cells.toList
 |[],j,cells,_,h4=>⟨cells,rfl,by simp at h4;simp[<-h4,<-Array.length_toList,bp]⟩
 |v::vs,j,cells,h1,h4=>by
  have hv:=h1 v (by simp);have hfit:j*e+e<=cells.size:=by
   rw[h4,<-Nat.succ_mul];exact cq _ (by simp)
  have hfc:=BM (place:=fun i=>some (i*e,e)) (i:=j) (rest:=(vs.zipIdx (j+1)).map fun p=>(p.2,p.1)) rfl hv hfit;have hsz:(cells.toList.take (j*e)++v.cells.toList++cells.toList.drop (j*e+e)).length=(j+1+vs.length)*e:=by
   simp[hv];rw[h4]at hfit⊢;simp only[ai]at hfit⊢;have:(j+1+vs.length)*e=(j+(vs.length+1))*e:=by congr 1;omega
   rw[this];omega
  obtain⟨out,h5,h7⟩:=EK vs (j+1) (cells.toList.take (j*e)++v.cells.toList++cells.toList.drop (j*e+e)).toArray
   (fun u hu=>h1 u (by simp[hu])) (by simpa using hsz)
  refine⟨out,by rw[fI,aX,hfc];exact h5,?_⟩;rw[h7];have hl:(cells.toList.take (j*e)++v.cells.toList).length=(j+1)*e:=by
   simp[hv,bH];omega
  rw[fN hl];simp
theorem J_{β:gU}{O:Own}{w:World}{e:Nat}:∀{xs:List AV}{vs:List Value}{cs:List AV},AV.flat e xs=some cs->AV.hM β O w xs vs->
 AV.hM β O w cs (vs.flatMap fun v=>v.cells.toList)/\(∀v∈vs,v.cells.size=e)/\∀u∈vs.flatMap (fun v=>v.cells.toList),one u=true
 |[],vs,cs,h,hv=>by
  simp only[AV.flat,aR]at h;simp only[AV.hM]at hv;subst h;subst hv;simp[AV.hM]
 |x::xs,vs,cs,h,hv=>by
  simp only[AV.hM]at hv;obtain⟨v,r,rfl,hv,hr⟩:=hv;simp only[AV.flat]at h;split at h
  ·rename_i c r' hc hr';split at h
   ·rename_i he;cases h;obtain⟨h1,h2⟩:=xy hv hc;obtain⟨h3,h4,h5⟩:=J_ hr' hr;rw[bJ];refine⟨oH h1 h3,fun u hu=>?_,fun u hu=>?_⟩
    ·rcases bu.1 hu with rfl|hu
     ·rw[<-Array.length_toList,AV.iy h1,he]
     ·exact h4 u hu
    ·rcases aI.1 hu with hu|hu
     ·exact h2 u hu
     ·exact h5 u hu
   ·cases h
  ·cases h
end
def tY(β:gU)(s:gL)(id b o:Nat):Prop:=
 match sat s id with
 |.dead=>False
 |.obj _ _=>β id=.blk b
 |.tok _ e n=>∃cap,β id=.tok (.slice (some ⟨b,0,none⟩) n cap) n/\n*e<=o
 |.iM _ _ n _=>∃cap,β id=.tok (.slice (some ⟨b,0,none⟩) n cap) n
 |.pI _ e n _=>∃cap bs,β id=.pI (.slice (some ⟨b,0,none⟩) n cap) n bs/\n*e<=o
 |.vf _ n _=>∃v bs,β id=.pI v n bs/\((∃cap,v=.slice (some ⟨b,0,none⟩) n cap/\0<cap)\/b∈bs)
 |.mp _ _ _=>False
theorem FM{β:gU}{s:gL}{b o:Nat}:own β s b o<->∃id,tY β s id b o:=cM
theorem tY.block{β:gU}{s:gL}{id b o:Nat}(h:tY β s id b o):gF β s id b:=by
 unfold tY at h;unfold gF;cases hs:sat s id with
 |dead=>rw[hs]at h;exact h
 |obj t cs=>rw[hs]at h;exact h
 |tok t e n=>rw[hs]at h;obtain⟨cap,h1,_⟩:=h;exact⟨cap,h1⟩
 |iM t e n cs=>rw[hs]at h;exact h
 |pI t e n cs=>rw[hs]at h;obtain⟨cap,bs,h1,_⟩:=h;exact⟨_,bs,h1,.inl ⟨cap,rfl⟩⟩
 |vf e n cs=>rw[hs]at h;exact h
 |mp P k es=>rw[hs]at h;exact h.elim
theorem My{β:gU}{O:Own}{w:World}{x:AV}{v:Value}(hx:DC x=false)(h:AV.ok β O w x v):NX β O w x v []:=by
 cases x with
 |dp d=>cases hx
 |_=>exact⟨h,rfl⟩
theorem xS{β:gU}{O:Own}{w:World}:∀{cs:List AV}{vs rest:List Value},yC cs=true->AV.hM β O w cs vs->vp β O w cs (vs++rest) []
 |[],_,_,_,_=>by simp[vp]
 |x::xs,vs,rest,hd,h=>by
  simp only[yC,List.all_cons,bF,fH]at hd;simp only[AV.hM]at h;obtain⟨v,r,rfl,h2,h3⟩:=h;simp only[vp];exact⟨v,r++rest,[],[],by simp,rfl,My hd.1 h2,xS (by simpa[yC]using hd.2) h3⟩
theorem Ah{β:gU}{O:Own}{w:World}:∀{cs ds:List AV}{us vs:List Value}{b1 b2:List Nat},us.length=cs.length->vp β O w cs us b1->vp β O w ds vs b2->vp β O w (cs++ds) (us++vs) (b1++b2)
 |[],ds,us,vs,b1,b2,hl,h1,h2=>by
  simp only[vp]at h1;subst h1;have:us=[]:=bY.1 hl;subst this;simpa using h2
 |x::xs,ds,us,vs,b1,b2,hl,h1,h2=>by
  simp only[vp]at h1;obtain⟨v,r,c1,c2,rfl,rfl,h3,h4⟩:=h1;simp only[cg,vp];exact⟨v,r++vs,c1,c2++b2,rfl,by simp,h3,Ah (by simpa using hl) h4 h2⟩
theorem CX{β:gU}{O:Own}{w:World}:∀{cs:List AV}{us vs:List Value}{bs:List Nat},vp β O w cs us bs->us.take cs.length=vs.take cs.length->vp β O w cs vs bs
 |[],_,_,_,h,_=>by simpa[vp]using h
 |x::xs,us,vs,bs,h,he=>by
  simp only[vp]at h⊢;obtain⟨v,r,c1,c2,rfl,rfl,h3,h4⟩:=h;cases vs with
  |nil=>simp at he
  |cons y ys=>
   simp only[ai,dP,dQ]at he;obtain⟨rfl,he⟩:=he;exact⟨v,ys,c1,c2,rfl,rfl,h3,CX h4 he⟩
theorem H8{β:gU}{O:Own}{w:World}:∀{cs:List AV}{us:List Value}{bs:List Nat},vp β O w cs us bs->cs.length<=us.length
 |[],_,_,_=>by simp
 |x::xs,us,bs,h=>by
  simp only[vp]at h;obtain⟨v,r,c1,c2,rfl,rfl,_,h4⟩:=h;have:=H8 h4;simp;omega
theorem MA{β:gU}{O:Own}{w:World}:∀{n:Nat}{us:List Value},n<=us.length->vp β O w (List.replicate n .iB) us []
 |0,_,_=>by simp[vp]
 |n+1,[],h=>by simp at h
 |n+1,u::us,h=>by
  simp only[cr,vp];exact⟨u,us,[],[],rfl,rfl,⟨by simp[AV.ok],rfl⟩,MA (by simpa using h)⟩
theorem BB{β:gU}{O:Own}{w:World}:∀{cs ds:List AV}{us:List Value}{bs:List Nat},vp β O w (cs++ds) us bs->cs.length<=us.length/\∃b1 b2,bs=b1++b2/\vp β O w cs us b1/\vp β O w ds (us.drop cs.length) b2
 |[],ds,us,bs,h=>⟨by simp,[],bs,rfl,by simp[vp],by simpa using h⟩
 |x::xs,ds,us,bs,h=>by
  simp only[cg,vp]at h;obtain⟨v,r,c1,c2,rfl,rfl,h3,h4⟩:=h;obtain⟨h5,b1,b2,rfl,h6,h7⟩:=BB h4;exact⟨by simpa using h5,c1++b1,b2,by simp,by simp only[vp];exact⟨v,r,c1,b1,rfl,rfl,h3,h6⟩,by simpa using h7⟩
theorem Gc{β:gU}{O:Own}{w:World}:∀{n:Nat}{us:List Value}{bs:List Nat},vp β O w (List.replicate n .iB) us bs->bs=[]
 |0,_,_,h=>by simpa[vp]using h
 |n+1,us,bs,h=>by
  simp only[cr,vp]at h;obtain⟨v,r,c1,c2,rfl,rfl,h3,h4⟩:=h;rw[Gc h4];simpa[NX]using h3.2
theorem St.Uz{C:Ctx}{β:gU}{env:List AV}{s:gL}{a:Act}{w:World}(h:St C β env s a w){id:Nat}
 {ob:Ob} {p:Place} {c:Array Value} {t:Nat} (hpl:mM (β id) p)
 (hown:∀b o,own (gM β id p) [(id,ob)] b o->b=w.heap.size)
 (hbl:∀b,gF (gM β id p) [(id,ob)] id b->b=w.heap.size\/gF β s id b)
 (hob:∀β' F,(∀x v,AV.ok β (C.gP β s) w x v->AV.ok β' F (w.alloc (.cells c t)) x v)->β' id=p->vG β' F (w.alloc (.cells c t)) id ob):
 St C (gM β id p) env (sset s id ob) a (w.alloc (.cells c t))/\mT β s w (gM β id p) (sset s id ob) (w.alloc (.cells c t)):=by
 have m:mT β s w (gM β id p) (sset s id ob) (w.alloc (.cells c t)):=by
  refine⟨by simp,rfl,fun b o v hc _=>?_,fun b hb _=>c_ hb,fun b o ho=>?_,fun i b hb=>?_,fun i=>?_⟩
  ·rw[<-hc];exact dw (c_ (tT hc))
  ·rcases vM ho with ho|ho
   ·exact .inl ho
   ·exact .inr (fF (hown b o ho).symm)
  ·rcases jH hb with⟨_,hb⟩|⟨_,hb⟩
   ·exact .inl ⟨i,hb⟩
   ·rcases hbl b hb with hb|hb
    ·exact .inr (fF hb.symm)
    ·exact .inl ⟨id,hb⟩
  ·by_cases hi:i=id
   ·subst hi;simpa[gM]using hpl
   ·simp only[gM,hi,aG];exact .refl _
 refine⟨h.move m (fun i=>?_) (fun i j b hi hj=>?_),m⟩
 ·rw[jg];by_cases hi:i=id
  ·subst hi;simp only[aH];exact hob _ _ (fun x v hx=>m.ok hx) (by simp[gM])
  ·simp only[hi,aG];exact(h.inv.obs i).wR m (by simp[gM,hi]) (fun b hb=>c_ (h.inv.vq hb)) rfl
 ·rcases jH hi with⟨hi1,hi2⟩|⟨rfl,hi2⟩<;>rcases jH hj with⟨hj1,hj2⟩|⟨rfl,hj2⟩
  ·exact h.inv.inj i j b hi2 hj2
  ·rcases hbl b hj2 with hb|hb
   ·have:=h.inv.vq hi2;omega
   ·exact h.inv.inj _ _ b hi2 hb
  ·rcases hbl b hi2 with hb|hb
   ·have:=h.inv.vq hj2;omega
   ·exact h.inv.inj _ _ b hb hj2
  ·rfl
theorem Jf{C:Ctx}{β:gU}{env:List AV}{s:gL}{a:Act}{w:World}(h:St C β env s a w){id t e n cap:Nat}{c:Array Value}{xs:List D}{cs:List AV}{bs:List Nat}
 (hpl:mM (β id) (.pI (.slice (some ⟨w.heap.size,0,none⟩) n cap) n bs)) (hbs:∀b∈bs,gF β s id b) (hnd:bs.Nodup)
 (hsz:c.size=cap*e) (hn:n<=cap) (hcap:cap<2^63) (h1:∀v∈c.toList,one v=true) (hx:xs.length=n)
 (hrow:∀(O':Own)(w':World),(∀b o v,w.cell? ⟨b,o,none⟩=some v->¬C.gP β s b o->w'.cell? ⟨b,o,none⟩=some v/\¬O' b o)->
  kN O' w' w.heap.size 0 (c.toList.take (n*e))->D.row O' w' w.heap.size 0 e xs)
 (hcs:cs.length=n*e)
 (hnx:∀β' F w',(∀x v,AV.ok β (C.gP β s) w x v->AV.ok β' F w' x v)->(∀b∈bs,w'.heap[b]?=w.heap[b]?)->vp β' F w' cs c.toList bs):
 ∃β',St C β' env (sset s id (.pI t e n cs)) a (w.alloc (.cells c t))/\
  AV.ok β' (C.gP β' (sset s id (.pI t e n cs))) (w.alloc (.cells c t)) (.own e id xs) (.slice (some ⟨w.heap.size,0,none⟩) n cap)/\
  β'=gM β id (.pI (.slice (some ⟨w.heap.size,0,none⟩) n cap) n bs):=by
 have hlt:∀b∈bs,b<w.heap.size:=fun b hb=>h.inv.vq (hbs b hb)
 obtain⟨h2,m⟩:=h.Uz (id:=id) (ob:=.pI t e n cs) (p:=.pI (.slice (some ⟨w.heap.size,0,none⟩) n cap) n bs) (c:=c) (t:=t) hpl
  (fun b o ho=>by
   obtain⟨i,ho⟩:=ho;by_cases hi:i=id
   ·subst hi;simp only[sat,aH,gM]at ho;obtain⟨cap',bs',ho,_⟩:=ho;simp at ho;exact ho.1.1.symm
   ·simp[sat,hi]at ho)
  (fun b hb=>by
   simp only[gF,sat,aH,gM]at hb;obtain⟨v',bs',hb,hb2⟩:=hb;simp at hb;obtain⟨rfl,rfl⟩:=hb;rcases hb2 with⟨cap',hb2⟩|hb2
   ·simp at hb2;exact .inl hb2.1.symm
   ·exact .inr (hbs b hb2))
  (fun β' F hok hp=>⟨_,bs,hp,fun b hb=>by
   obtain⟨o,ho⟩:∃o,w.heap[b]?=some o:=⟨_,cS (hlt b hb)⟩;have:=h.inv.obs id;have hbo:=hbs b hb;unfold gF at hbo;rw[c_ (hlt b hb)];cases hs:sat s id with
   |dead=>rw[hs]at hbo;exact hbo.elim
   |obj t' cs'=>rw[hs]at hbo this;obtain⟨b',vs,k1,k2,_⟩:=this;rw[hbo]at k1;cases k1;exact⟨vs,t',k2⟩
   |mp P k es=>rw[hs]at this;obtain⟨b',k1,_⟩:=this;rw[k1]at hpl;cases hpl
   |tok t' e' n'=>
    rw[hs]at hbo this;obtain⟨cap',hbo⟩:=hbo;obtain⟨u,k1,k2⟩:=this;rw[hbo]at k1;cases k1;rcases k2 with⟨k2,_⟩|⟨b',cap2,vs,k2,k3,_⟩
    ·cases k2
    ·cases k2;exact⟨vs,t',k3⟩
   |iM t' e' n' cs'=>
    rw[hs]at hbo this;obtain⟨cap',hbo⟩:=hbo;obtain⟨u,k1,_,k2⟩:=this;rw[hbo]at k1;cases k1;rcases k2 with⟨k2,_⟩|⟨b',cap2,vs,k2,k3,_⟩
    ·cases k2
    ·cases k2;exact⟨vs,t',k3⟩
   |pI t' e' n' cs'=>
    rw[hs]at hbo this;obtain⟨v,bs',hbo,hb2⟩:=hbo;obtain⟨u,bs2,k1,k0,_,k2⟩:=this;rw[hbo]at k1;cases k1;rcases hb2 with⟨cap',rfl⟩|hb2
    ·rcases k2 with⟨k2,_⟩|⟨b',cap2,vs,k2,k3,_⟩
     ·cases k2
     ·cases k2;exact⟨vs,t',k3⟩
    ·exact k0 b hb2
   |vf e' n' cs'=>
    rw[hs]at hbo this;obtain⟨v,bs',hbo,hb2⟩:=hbo;obtain⟨u,bs2,k1,k0,_,k2⟩:=this;rw[hbo]at k1;cases k1;rcases hb2 with⟨cap',rfl,hc0⟩|hb2
    ·rcases k2 with⟨⟨_,k2⟩,_⟩|⟨b',cap2,vs,t2,k2,k3,_⟩
     ·simp only[cA]at k2;omega
     ·cases k2;exact⟨vs,t2,k3⟩
    ·exact k0 b hb2,
   hcs,.inr ⟨w.heap.size,cap,c,rfl,dD,hsz,hn,hcap,h1,cQ.2 ⟨fun hb=>Nat.lt_irrefl _ (hlt _ hb),hnd⟩,
    hnx β' F _ hok fun b hb=>c_ (hlt b hb)⟩⟩)
 refine⟨_,h2,?_,rfl⟩;simp only[AV.ok,D.ok];refine⟨⟨_,cap,by rw[hx],⟨gB,hcap⟩,trivial,?_⟩,_,n,by simp[gM,Place.at],gB,fun _=>rfl⟩;right;refine⟨w.heap.size,0,rfl,hrow _ _ m.stays ?_⟩;refine wW dD (fun j v hj=>?_) (fun j hj hf=>?_) (fun v hv=>h1 v (bE hv))
 ·rw[bX]at hj;split at hj
  ·simpa using hj
  ·cases hj
 ·rcases hf with hf|hf
  ·have:=(h.inv.low _ _ hf).1;have:=h.inv.size;omega
  ·rcases vM hf with hf|hf
   ·have:=h.inv.Jj hf;omega
   ·obtain⟨i,hf⟩:=hf;by_cases hi:i=id
    ·subst hi;simp only[sat,aH,gM]at hf;obtain⟨_,_,_,hf⟩:=hf;have:(c.toList.take (n*e)).length<=n*e:=List.length_take_le _ _;omega
    ·simp[sat,hi]at hf
section
variable{P:Program}{C:Ctx}{o:Oper}{env:List AV}{s:gL}{k:List AV->gL->Prop}
theorem pZ.Ov{O:Own}{w:World}{sz:Nat}:∀{ds:List D}{us:List Value},pZ O w sz ds us->∀v∈us,one v=true
 |[],us,h,v,hv=>by simp only[pZ]at h;subst h;cases hv
 |x::xs,us,h,v,hv=>by
  simp only[pZ]at h;obtain⟨p,r,rfl,_,h6,h7⟩:=h;rcases aI.1 hv with hv|hv
  ·obtain⟨i,hi⟩:=cK hv;have hlt:i<(gJ x).length:=by rw[<-D.iy h6];exact(aP.1 hi).1
   exact((D.jQ.1 h6).2 i _ v (aB hlt) hi).1
  ·exact pZ.Ov h7 v hv
theorem G9{f:AV->AV}(hf:∀x,DC x=false->DC (f x)=false):∀{cs:List AV},yC cs=true->yC (cs.map f)=true
 |[],_=>rfl
 |x::xs,h=>by
  simp only[yC,aX,List.all_cons,bF,fH]at h⊢;exact⟨hf x h.1,by simpa[yC]using G9 hf (cs:=xs) (by simpa[yC]using h.2)⟩
theorem NN{ρ:Nat->Option Nat}(x:AV)(h:DC x=false):DC (x.kY ρ)=false:=by
 cases x<;>simp only[AV.kY]<;>first|rfl|(split<;>rfl)|exact h
theorem U5{d t n:Nat}{ps:Array (Nat×Operand)}(hop:o.op=.buildSlice t n ps){e sz:Nat}(ht:P.underlying t=some (.slice e))(hsz:kH P e=some sz)
 {z:List D} (hz:tw P e=some z) (hn:n*sz<=2^24) (hsz0:0<sz) {xs:List Operand} (hxs:uB n ps.toList=some xs)
 {ds:List D} (hds:AV.mI (xs.map (ev env))=some ds) (hel:∀x∈ds,(gJ x).length=sz) {cs:List AV} (hcs0:AV.flat sz (xs.map (ev env))=some cs) (hnd:yC cs=true)
 (hk:C.k<=d/\(if(sat s d).kg then k (iq o.dst env (.own sz d ds)) (sset s d (.pI e sz ds.length cs))
  else k (iq o.dst (AV.iI (gV d) env) (.own sz d ds)) (sset (iL d s) d (.pI e sz ds.length (cs.map (AV.kY (gV d))))))):nB P C o env s k:=by
 refine .value fun β a w hst=>?_
 obtain⟨i,u,hi,hzu,hzs,h1,_⟩:=n_ hz;have hisz:i.size=sz:=by obtain⟨i',h1,h2⟩:=kR hsz;rw[hi]at h1;cases h1;exact h2
 have hxs':ps.toList.map (·.1)=List.range n/\ps.toList.map (·.2)=xs:=by
  unfold uB at hxs;split at hxs
  ·cases hxs;exact⟨by assumption,rfl⟩
  ·cases hxs
 have hlen:xs.length=n:=by rw[<-hxs'.2];simp;have:=aO List.length hxs'.1;simpa using this
 obtain⟨hdl,hdv⟩:=wL hds;have hdl':ds.length=n:=by rw[hdl,aM,hlen]
 have hok:∀(i:Nat)(d:D)(v:Value),ds[i]?=some d->(xs.map a.eval)[i]?=some v->D.ok (C.gP β s) w d v:=by
  intro i d v hd hv;rw[bq]at hv;cases hx:xs[i]? with
  |none=>rw[hx]at hv;cases hv
  |some x=>
   rw[hx]at hv;cases hv;exact Ft (hst.ev x) (hdv i (ev env x) d (by rw[bq,hx];rfl) hd)
 have hall:∀ys:List Operand,AV.hM β (C.gP β s) w (ys.map (ev env)) (ys.map a.eval):=by
  intro ys;induction ys with
  |nil=>simp[AV.hM]
  |cons y ys ih=>simp only[aX,AV.hM];exact⟨_,_,rfl,hst.ev y,ih⟩
 obtain⟨hokc,hcs,hone⟩:=J_ hcs0 (hall xs);obtain⟨out,h2,us,h3,h4⟩:=AX (O:=C.gP β s) (w:=w) (e:=sz) ds (xs.map a.eval) 0 ((Array.range (n*sz)).map fun i=>u.cells[i%u.cells.size]!) hcs hok (by simp[hdl',hlen]) (by simp[hlen]);obtain⟨out2,g2,g4⟩:=EK (xs.map a.eval) 0 ((Array.range (n*sz)).map fun i=>u.cells[i%u.cells.size]!) hcs (by simp[hlen]);rw[h2]at g2;cases g2;simp only[ew,eY,bw]at h4 g4;have hzip:((xs.map a.eval).zipIdx 0).map (fun p=>(p.2,p.1))=(ps.map fun p=>(p.1,a.eval p.2)).toList:=by
  rw[ei];apply dJ;intro j;simp only[bq,fh];have e1:=aO (·[j]?) hxs'.1;have e2:=aO (·[j]?) hxs'.2;simp only[bq]at e1 e2;cases hp:ps.toList[j]? with
  |none=>rw[hp]at e2;simp at e2;simpa using e2
  |some p=>
   rw[hp]at e1 e2;simp at e1 e2;rw[<-e2];have hj:j<n:=by
    rcases cB j n with h|h
    ·exact h
    ·rw[bI (by simpa using h)]at e1;cases e1
   rw[dy hj]at e1;cases e1;simp
 rw[hzip]at h2;have hul:=h3.length;rw[<-g4]at hokc;have hcl:cs.length=ds.length*sz:=by rw[<-AV.iy hokc,h4,hul]
 have key:∃β1 env1 s1 f,St C β1 env1 s1 a w/\sat s1 d=.dead/\k (iq o.dst env1 (.own sz d ds)) (sset s1 d (.pI e sz ds.length (cs.map f)))/\yC (cs.map f)=true/\
  (∀x v,AV.ok β (C.gP β s) w x v->AV.ok β1 (C.gP β1 s1) w (f x) v)/\∀b o,C.gP β1 s1 b o->C.gP β s b o:=by
  obtain⟨hk0,hk⟩:=hk;split at hk
  ·rename_i hd;exact⟨β,env,s,fun x=>x,hst,by cases hs:sat s d<;>simp_all[Ob.kg],by simpa using hk,by simpa using hnd,fun x v hx=>hx,fun _ _ h=>h⟩
  ·exact⟨_,_,_,AV.kY (gV d),hst.kill d hk0,by rw[tg];simp,hk,G9 NN hnd,fun x v hx=>wO hx,fun _ _ h=>h.imp (fun x=>x) wj⟩
 obtain⟨β1,env1,s1,f,hst1,hd1,hk1,hnd1,hf0,hf⟩:=key;have hno:β1 d=.no:=by have:=hst1.inv.obs d;rw[hd1]at this;exact this
 have hokf:=FK hf0 hokc;obtain⟨β',hst',hok',_⟩:=Jf hst1 (id:=d) (t:=e) (e:=sz) (n:=ds.length) (cap:=ds.length) (c:=out) (xs:=ds) (cs:=cs.map f) (bs:=[]) (by rw[hno];trivial) (by simp) (by simp)
  (by rw[<-hul,<-h4];simp) (ay _) (by rw[hdl'];have:n<=n*sz:=cL _ hsz0;omega)
  (by rw[h4];exact h3.Ov) rfl
  (fun O' w' hm hc=>by
   rw[h4,<-hul,bp]at hc;exact h3.row (fun b o v q1 q2=>hm b o v q1 fun h=>q2 (hf b o h)) hc)
  (by simpa using hcl)
  (fun β' F w' hm _=>by
   have h5:AV.hM β' F w' (cs.map f) out.toList:=by
    rw[AV.jQ]at hokf⊢;exact⟨hokf.1,fun i x v h1 h2=>hm x v (hokf.2 i x v h1 h2)⟩
   simpa using xS (rest:=[]) hnd1 h5)
 refine⟨.slice (some ⟨w.heap.size,0,none⟩) ds.length ds.length,_,β',env1,_,_,?_,hst',hok',hk1⟩;have hbig:¬(n*i.size>2^24):=by rw[hisz];omega
 rw[hdl'];rw[hisz]at hbig;have hrun:(Instr.buildSlice t n (ps.map fun(i,x)=>(i,a.eval x))).run P w=.ok (.slice (some ⟨w.heap.size,0,none⟩) n n) (w.alloc (.cells out e)):=by
  simp only[Instr.buildSlice,aV,bf ht,aJ,Go.sizeOf,typeInfo,cW,hi,bl,hisz];rw[az hbig];by_cases h0:n*sz=0
  ·have he:((Array.range (n*sz)).map fun i=>u.cells[i%u.cells.size]!)=#[]:=by rw[h0];simp
   have he':((Array.range (n*sz)).map fun i=>(#[]:Array Value)[i%(#[]:Array Value).size]!)=#[]:=by rw[h0];simp
   rw[he,<-he']at h2;rw[ah h0];simp only[bl,aJ,h2,aV,newRow,ej,dF]
  ·rw[az h0];simp only[zeroValue,typeInfo,aV,cW,hi,hzu,bl,aJ,h2,newRow,ej,dF]
 simp only[execOp,hop,aV,hrun,aJ,bl]
end
theorem St.YE{C:Ctx}{β:gU}{env:List AV}{s:gL}{a:Act}{w w':World}(h:St C β env s a w){id b:Nat}{ob:Ob}{p:Place}
 (hbl:gF β s id b) (hsize:w'.heap.size=w.heap.size) (hio:Gb w'=Gb w) (hoth:∀b',b'≠b->w'.heap[b']?=w.heap[b']?)
 (hkeep:∀o v,w.cell? ⟨b,o,none⟩=some v->¬own β s b o->w'.cell? ⟨b,o,none⟩=some v)
 (hown:∀b' o,own (gM β id p) [(id,ob)] b' o->own β s b' o)
 (hblk:∀b',gF (gM β id p) [(id,ob)] id b'->gF β s id b')
 (hpl:mM (β id) p)
 (hob:∀β' F,(∀x v,AV.ok β (C.gP β s) w x v->AV.ok β' F w' x v)->β' id=p->vG β' F w' id ob):
 St C (gM β id p) env (sset s id ob) a w'/\mT β s w (gM β id p) (sset s id ob) w':=by
 have m:mT β s w (gM β id p) (sset s id ob) w':=by
  refine⟨gB,hio,fun b' o v hc hn=>?_,fun b' _ hn=>?_,fun b' o ho=>?_,fun i b' hb=>?_,fun i=>?_⟩
  ·by_cases hbb:b'=b
   ·subst hbb;exact hkeep o v hc hn
   ·rw[<-hc];exact dw (hoth b' hbb)
  ·exact hoth b' fun e=>hn id (e▸hbl)
  ·rcases vM ho with ho|ho
   ·exact .inl ho
   ·exact .inl (hown b' o ho)
  ·rcases jH hb with⟨_,hb⟩|⟨_,hb⟩
   ·exact .inl ⟨i,hb⟩
   ·exact .inl ⟨id,hblk b' hb⟩
  ·by_cases hi:i=id
   ·subst hi;simpa[gM]using hpl
   ·simp only[gM,hi,aG];exact .refl _
 refine⟨h.move m (fun i=>?_) (fun i j b' hi hj=>?_),m⟩
 ·rw[jg];by_cases hi:i=id
  ·subst hi;simp only[aH];exact hob _ _ (fun x v hx=>m.ok hx) (by simp[gM])
  ·simp only[hi,aG];refine(h.inv.obs i).wR m (by simp[gM,hi]) (fun b' hb=>hoth b' fun e=>hi ?_) rfl;subst e;exact h.inv.inj i id b' hb hbl
 ·rcases jH hi with⟨hi1,hi2⟩|⟨rfl,hi2⟩<;>rcases jH hj with⟨hj1,hj2⟩|⟨rfl,hj2⟩
  ·exact h.inv.inj i j b' hi2 hj2
  ·exact absurd (h.inv.inj i _ b' hi2 (hblk b' hj2)) hi1
  ·exact absurd (h.inv.inj j _ b' hj2 (hblk b' hi2)) hj1
  ·rfl
theorem Hr{β β':gU}{O O':Own}{w w':World}(hf:∀x v,AV.ok β O w x v->AV.ok β' O' w' x v):∀{xs:List AV}{vs:List Value},AV.hM β O w xs vs->AV.hM β' O' w' xs vs
 |[],_,h=>by simpa[AV.hM]using h
 |x::xs,vs,h=>by
  simp only[AV.hM]at h⊢;obtain⟨v,r,rfl,h2,h3⟩:=h;exact⟨v,r,rfl,hf _ _ h2,Hr hf h3⟩
theorem PZ{β:gU}{O:Own}{w:World}{cs:List AV}{us:List Value}{bs:List Nat}{off n:Nat}(h:vp β O w cs us bs)(hl:off+n<=cs.length):
 ∃b1 bm b2,bs=b1++(bm++b2)/\vp β O w (cs.take off) us b1/\vp β O w (cs.drop (off+n)) (us.drop (off+n)) b2:=by
 have e:cs=cs.take off++((cs.drop off).take n++cs.drop (off+n)):=by rw[<-List.drop_drop,bL,bL]
 rw[e]at h;obtain⟨h1,b1,b',rfl,h2,h3⟩:=BB h;obtain⟨h4,bm,b2,rfl,_,h6⟩:=BB h3;have l1:(cs.take off).length=off:=by simp;omega
 have l2:((cs.drop off).take n).length=n:=by simp;omega
 rw[l1,l2,List.drop_drop]at h6;exact⟨b1,bm,b2,rfl,h2,h6⟩
section
variable{P:Program}{C:Ctx}{o:Oper}{env:List AV}{s:gL}{k:List AV->gL->Prop}
theorem OE{β:gU}{a:Act}{w:World}(hst:St C β env s a w){id e m g cap n off:Nat}{cs xs:List AV}{bs:List Nat}{vs:Array Value}{t:Nat}{news:Array Value}
 (hs:sat s id=.vf e m cs) (hb:β id=.pI (.slice (some ⟨g,0,none⟩) m cap) m bs) (hh:w.heap[g]?=some (.cells vs t (0,0)))
 (hl1:xs.length=n) (hl2:off+n<=cs.length) (hnd:yC xs=true) (hlv:off+n<=vs.size)
 (hx1:AV.hM β (C.gP β s) w xs news.toList) (hx2:∀u∈news.toList,one u=true) (hc0:0<cap:=by assumption):
 ∃β',St C β' env (sset s id (.vf e m (cs.take off++xs++cs.drop (off+n)))) a (w.setRow g (vs.toList.take off++news.toList++vs.toList.drop (off+n)).toArray):=by
 have ho:=hst.inv.obs id;rw[hs]at ho;obtain⟨u,bs',k1,k0,k3,k4⟩:=ho;rw[hb]at k1;cases k1;rcases k4 with⟨⟨_,k4⟩,_⟩|⟨g',cap',vs',t',k4,k5,k6,k7,k8,k9,_,k10,k11⟩
 ·simp only[cA]at k4;omega
 cases k4;rw[hh]at k5;cases k5;have hlx:=AV.iy hx1;obtain⟨b1,bm,b2,rfl,n1,n2⟩:=PZ (off:=off) (n:=n) k11 hl2;have hbl:gF β s id g:=by unfold gF;rw[hs];exact⟨_,_,hb,.inl ⟨cap,rfl,hc0⟩⟩
 have hsubm:∀q,q∈b1++b2->q∈b1++(bm++b2):=fun q hq=>by
  rcases aI.1 hq with h|h
  ·simp[h]
  ·simp[h]
 have hgb:∀b∈b1++b2,b≠g:=fun b hb e=>(cQ.1 k10).1 (e▸hsubm b hb)
 have hh':=eH w g vs (vs.toList.take off++news.toList++vs.toList.drop (off+n)).toArray t (0,0) hh;have hOth:∀b',b'≠g->(w.setRow g (vs.toList.take off++news.toList++vs.toList.drop (off+n)).toArray).heap[b']?=w.heap[b']?:=fun b' hb'=>fL w g b' _ (fun e=>hb' e)
 obtain⟨hst',_⟩:=hst.YE (id:=id) (b:=g) (ob:=.vf e m (cs.take off++xs++cs.drop (off+n))) (p:=.pI (.slice (some ⟨g,0,none⟩) m cap) m (b1++b2))
  (w':=w.setRow g (vs.toList.take off++news.toList++vs.toList.drop (off+n)).toArray) hbl (by simp) (by simp[Gb]) hOth
  (fun q v hcell hn=>absurd ⟨id,by rw[hs];exact⟨_,_,hb,.inl ⟨cap,rfl,hc0⟩⟩⟩ hn)
  (fun b' q hown=>by
   obtain⟨i',hown⟩:=hown;by_cases hi':i'=id
   ·subst hi';simp only[sat,aH,gM]at hown;obtain⟨v',q',p1,p2⟩:=hown;simp only[Place.pI.injEq,eV]at p1;obtain⟨rfl,rfl⟩:=p1;refine⟨i',?_⟩;rw[hs];exact⟨_,_,hb,p2.imp (fun x=>x) (hsubm b')⟩
   ·simp[sat,hi']at hown)
  (fun b' hb'=>by
   simp only[gF,sat,aH,gM]at hb';obtain⟨v',q',p1,p2⟩:=hb';simp only[Place.pI.injEq,eV]at p1;obtain⟨rfl,rfl⟩:=p1;unfold gF;rw[hs];exact⟨_,_,hb,p2.imp (fun x=>x) (hsubm b')⟩)
  (by rw[hb];exact⟨_,_,_,rfl,ay _,fun _=>rfl⟩)
  (fun β' F hok hp=>⟨_,_,hp,fun b hb=>by rw[hOth b (hgb b hb)];exact k0 b (hsubm b hb),by
   rw[<-k3];simp only[aj,aY,bR];omega,
   .inr ⟨g,cap,_,t,rfl,hh',by
    simp only[di,aj,aY,bR,Array.length_toList]at hlx⊢;omega,k7,k8,fun v hv=>by
     simp only[aI]at hv;rcases hv with(hv|hv)|hv
     ·exact k9 v (bE hv)
     ·exact hx2 v hv
     ·exact k9 v (cI hv),hc0,by
    have h1:=cQ.1 k10;refine cQ.2 ⟨fun h=>h1.1 (hsubm g h),?_⟩;have h2:=dm.1 h1.2;have h3:=dm.1 h2.2.1;exact dm.2 ⟨h2.1,h3.2.1,fun x hx y hy=>h2.2.2 x hx y (cT _ hy)⟩,by
    have e1:=vp.imp (f:=fun x=>x) (zK hok) (fun b hb=>hOth b (hgb b (by simp[hb]))) n1;have e2:=vp.imp (f:=fun x=>x) (zK hok) (fun b hb=>hOth b (hgb b (by simp[hb]))) n2;rw[List.map_id']at e1 e2;have e3:vp β' F (w.setRow g (vs.toList.take off++news.toList++vs.toList.drop (off+n)).toArray) xs (news.toList++vs.toList.drop (off+n)) []:=
     xS hnd (Hr hok hx1)
    have lt:(cs.take off).length=off:=by simp;omega
    have e4:=CX (vs:=vs.toList.take off) e1 (by rw[lt,List.take_take,Nat.min_self]);have e5:=Ah (us:=vs.toList.take off) (by rw[lt,aY,Array.length_toList];omega) e4 (Ah (us:=news.toList) (b1:=[]) (by rw[hlx]) (CX e3 (by rw[<-hlx,fN];rw[bp];rfl)) e2);simpa[aL]using e5⟩⟩)
 exact⟨_,hst'⟩
end
section
variable{P:Program}{C:Ctx}{o:Oper}{env:List AV}{s:gL}{k:List AV->gL->Prop}
theorem Ru{t n:Nat}{p x:Operand}(hop:o.op=.store t p x)(hn:kH P t=some n)
 (hk:FW n (ev env p) (ev env x) s fun s=>k (iq o.dst env .iB) s):nB P C o env s k:=by
 refine .skip fun β a w hst=>?_
 obtain⟨i,hi,hin⟩:∃i,P.info? t=some i/\i.size=n:=by
  unfold kH at hn;cases hq:P.info? t with
  |none=>simp[hq]at hn
  |some i=>exact⟨i,rfl,by simpa[hq]using hn⟩
 have hp:=hst.ev p;unfold FW at hk;split at hk
 ·rename_i id off hpe;rw[hpe]at hp;simp only[AV.ok]at hp;obtain⟨b,hb,hv⟩:=hp;have ho:=hst.inv.obs id;split at hk
  ·rename_i t' cs hs;split at hk
   ·rename_i xs hxs;obtain⟨hl1,hl2,hk⟩:=hk;obtain⟨hx1,hx2⟩:=xy (hst.ev x) hxs;rw[hs]at ho;obtain⟨b',vs,hb',hh,h1,h2⟩:=ho;rw[hb]at hb';cases hb';obtain⟨pre,rest,hvs,h2⟩:=h2;have hl:=AV.iy h2;have hlv2:off+n<=vs.size:=by have:=aO List.length hvs;simp at this;omega
    have hlx:=AV.iy hx1;have hlv:(a.eval x).cells.size=n:=by rw[<-hl1,<-hlx];simp
    have hrun:=eL P b off t' (a.eval x).cells.toList 0 vs w hh (by simp;omega) (fun v hv=>wT (hx2 v hv));simp only[de,Array.length_toList,hlv]at hrun;refine⟨_,β,env,_,?_,hst.O7 (cs':=cs.take off++xs++cs.drop (off+n)) (vs':=(vs.toList.take off++(a.eval x).cells.toList++vs.toList.drop (off+n)).toArray) hs hb hh ?_ ?_,hk⟩
    ·simp[execOp,hop,Instr.storeAt,hv,Instr.sureAddr,storeVar,Go.sizeOf,typeInfo,hi,hin,hlv,hrun]
    ·intro v hv';simp only[aI]at hv';rcases hv' with(hv'|hv')|hv'
     ·exact h1 v (bE hv')
     ·exact hx2 v hv'
     ·exact h1 v (cI hv')
    ·refine⟨pre.take off++(a.eval x).cells.toList++pre.drop (off+n),rest,?_,oH (oH (zg off h2) hx1) (ze _ h2)⟩;simp only[hvs];rw[cw gB,cz gB];simp
   ·exact hk.elim
  ·exact hk.elim
 ·rename_i id kk off hpe;rw[hpe]at hp;split at hk
  ·rename_i t' e' m cs hs;split at hk
   ·rename_i d hd;obtain⟨rfl,hl1,hl2,hk⟩:=hk;have hx:=zC (Ft (hst.ev x) hd);simp only[AV.ok]at hp;obtain⟨u,m',b,off',hb,_,hv,hpt⟩:=hp;have ho:=hst.inv.obs id;rw[hs]at ho;obtain⟨u',hb',hcl,hg⟩:=ho;rw[hb']at hb;obtain⟨rfl,rfl⟩:=hb;obtain⟨cap,hu,had⟩:=hpt rfl;subst had;rcases hg with⟨hg,_⟩|⟨b',cap',vs,hg,hh,h3,h4,h5,h1,pre,rest,hvs,h2⟩
    ·rw[hg]at hu;cases hu
    ·rw[hu]at hg;cases hg;have hl:=D.iy h2;have hlx:=D.iy hx;have hlv:(a.eval x).cells.size=n:=by rw[<-hl1,<-hlx];simp
     have hx2:∀v∈(a.eval x).cells.toList,one v=true:=fun v hv=>by
      obtain⟨q,hq⟩:=cK hv;have hlt:q<(gJ d).length:=by rw[<-hlx];exact(aP.1 hq).1
      exact((D.jQ.1 hx).2 q _ v (aB hlt) hq).1
     have hlv2:off'+n<=vs.size:=by have:=aO List.length hvs;simp at this;omega
     have hrun:=eL P b off' t' (a.eval x).cells.toList 0 vs w hh (by simp;omega) (fun v hv=>wT (hx2 v hv));simp only[de,Array.length_toList,hlv]at hrun;obtain⟨β',h9,_⟩:=G2 hst (n':=m) (cs':=cs.take off'++gJ d++cs.drop (off'+n)) (vs':=(vs.toList.take off'++(a.eval x).cells.toList++vs.toList.drop (off'+n)).toArray)
      (pre:=pre.take off'++(a.eval x).cells.toList++pre.drop (off'+n)) (rest:=rest) hs (by rw[hb',hu]) hh (ay _)
      (by simp only[di,aj,aY,bR,Array.length_toList,hlv];omega) h4 h5
      (by
       intro v hv';simp only[aI]at hv';rcases hv' with(hv'|hv')|hv'
       ·exact h1 v (bE hv')
       ·exact hx2 v hv'
       ·exact h1 v (cI hv'))
      (by simp only[aj,aY,bR];omega)
      (by
       simp only[hvs];rw[cw gB,cz gB];simp)
      (tc (tc (BL off' h2) hx) (zD _ h2))
     refine⟨_,β',env,_,?_,h9,hk⟩;simp[execOp,hop,Instr.storeAt,hv,Instr.sureAddr,storeVar,Go.sizeOf,typeInfo,hi,hin,hlv,hrun]
   ·exact hk.elim
  ·rename_i e' m cs hs;split at hk
   ·rename_i xs hxs;obtain⟨rfl,hl1,hn0,hl2,hnd,hk⟩:=hk;obtain⟨hx1,hx2⟩:=xy (hst.ev x) hxs;simp only[AV.ok]at hp;obtain⟨u,m',b,off',hb,_,hv,hpt⟩:=hp;have ho:=hst.inv.obs id;rw[hs]at ho;obtain⟨u',bs,hb',h0,hcl,hg⟩:=ho;rw[hb']at hb;obtain⟨rfl,rfl⟩:=hb;obtain⟨cap,hu,had⟩:=hpt rfl;subst had;rcases hg with⟨_,hg,_⟩|⟨b',cap',vs,t',hg,hh,h3,h4,h5,h1,hc0,hnod,h2⟩
    ·subst hg;simp only[ew]at hcl;omega
    ·rw[hu]at hg;simp only[cA,aR,Addr.mk.injEq,eV,and_true]at hg;obtain⟨rfl,rfl⟩:=hg;have hlx:=AV.iy hx1;have hlv:(a.eval x).cells.size=n:=by rw[<-hl1,<-hlx];simp
     have hlv2:off'+n<=vs.size:=by rw[h3];exact bN hl2 (by rw[hcl];exact cq _ h4)
     have hrun:=eL P b off' t' (a.eval x).cells.toList 0 vs w hh (by simp;omega) (fun v hv=>wT (hx2 v hv));simp only[de,Array.length_toList,hlv]at hrun;obtain⟨β',h9⟩:=OE hst hs (by rw[hb',hu]) hh hl1 hl2 hnd hlv2 hx1 hx2;refine⟨_,β',env,_,?_,h9,hk⟩;simp[execOp,hop,Instr.storeAt,hv,Instr.sureAddr,storeVar,Go.sizeOf,typeInfo,hi,hin,hlv,hrun]
   ·exact hk.elim
  ·exact hk.elim
 ·exact hk.elim
end
section
variable{P:Program}{C:Ctx}{o:Oper}{env:List AV}{s:gL}{k:List AV->gL->Prop}
end
theorem L2{j:Nat}{x y:Ob}:∀s:gL,sset (sset s j x) j y=sset s j y
 |[]=>by simp[sset]
 |(q,z)::r=>by
  simp only[sset];by_cases h:j=q
  ·simp[h,sset]
  ·simp only[h,aG];by_cases h2:j<q
   ·simp[h2,sset]
   ·simp only[h2,aG,sset,h];rw[L2 r]
section
variable{P:Program}{C:Ctx}{o:Oper}{env:List AV}{s:gL}{k:List AV->gL->Prop}
end
section
variable{P:Program}{C:Ctx}{o:Oper}{env:List AV}{s:gL}{k:List AV->gL->Prop}
theorem fE{w:World}{t e:Nat}{i:TypeInfo}{u:Value}(ht:P.underlying t=some (.slice e))(hi:P.info? e=some i)(hz:i.zero=some u)
 {j j':IntKind} {l c:Int} (h0:0<=l) (h1:l<=c) (h2:i.bytes*c<=2^48) (h3:c<2^62):
 (Instr.makeSlice t (.int j l) (.int j' c)).run P w=.ok (.slice (some ⟨w.heap.size,0,none⟩) l.toNat c.toNat)
  (w.alloc (.cells ((Array.range (c.toNat*i.size)).map fun q=>(if c.toNat*i.size=0 then #[]else u.cells)[q%(if c.toNat*i.size=0 then #[]else u.cells).size]!) e)):=by
 have w1:IntKind.i64.wrap l=l:=by
  unfold IntKind.wrap IntKind.bits IntKind.signed;simp only[bV];have:l%2^64=l:=Int.emod_eq_of_lt h0 gB;rw[this];rw[az];simp;omega
 have w2:IntKind.i64.wrap c=c:=by
  unfold IntKind.wrap IntKind.bits IntKind.signed;simp only[bV];have:c%2^64=c:=Int.emod_eq_of_lt gB gB;rw[this];rw[az];simp;omega
 have hb1:¬(c<0):=by omega
 have hb2:¬(i.bytes*c>2^48):=by omega
 have hb3:¬(l<0):=by omega
 have hb4:¬(l>c):=by omega
 simp only[Instr.makeSlice,aV,bf ht,aJ,Go.asInt,asIntOf,bl,typeInfo,cW,hi,w1,w2];have hc:(decide (c<0)||decide (i.bytes*c>2^48)||decide (l<0)||decide (l>c))=false:=by rw[ek hb1,ek hb2,ek hb3,ek hb4];rfl
 rw[az (by rw[hc];simp)];simp only[aV,run_askRoom,aJ,Go.sizeOf,typeInfo,cW,hi,bl];by_cases hq:c.toNat*i.size=0
 ·simp only[ah hq,bl,aJ,newRow,aV,ej,dF]
 ·simp only[az hq,zeroValue,typeInfo,aV,cW,hi,hz,bl,aJ,newRow,ej,dF]
theorem Ec{z:Array Value}{sz n:Nat}(hz:z.size=sz):((Array.range (n*sz)).map fun q=>z[q%sz]!).toList=(List.replicate n z.toList).flatten:=by
 induction n with
 |zero=>simp
 |succ n ih=>
  have e1:(n+1)*sz=n*sz+sz:=by rw[bH];omega
  rw[e1];simp only[ei,Array.toList_range]at ih⊢;rw[List.range_add,aQ,ih,List.replicate_succ',bU];congr 1;simp only[aS,bW,bg,dh];apply dA
  ·simp[hz]
  ·intro q h1 h2;simp at h1;have h3:q<z.size:=by omega
   simp only[List.getElem_map,List.getElem_range,Function.comp];have:(n*sz+q)%sz=q:=by rw[Nat.add_comm,Nat.add_mul_mod_self_right,Nat.mod_eq_of_lt h1]
   rw[this,eu z q h3];simp
theorem zf{β:gU}{O:Own}{w:World}{xs:List AV}{vs:List Value}(h:AV.hM β O w xs vs):∀n,AV.hM β O w (List.replicate n xs).flatten (List.replicate n vs).flatten
 |0=>by simp[AV.hM]
 |n+1=>by
  simp only[cr,aS];exact oH h (zf h n)
theorem OS{d t:Nat}{len cap:Operand}(hop:o.op=.makeSlice t len cap){e sz by':Nat}(ht:P.underlying t=some (.slice e))(hsz:kH P e=some sz)
 (hby:xV P e=some by') {z:List D} (hz:tw P e=some z) (hsz0:0<sz) {tok:Bool} (htok:(tok=true/\isZero len=true)\/(tok=false/\yq len cap=true))
 {l c:Int} (hl:js (ev env len)=some l) (hc:js (ev env cap)=some c) (h0:0<=l) (h1:l<=c) (h2:by'*c<=2^48) (h3:c<2^62)
 (hk:vK C.k d env s fun env s _=>if tok then k (iq o.dst env (.own sz d [])) (sset s d (.tok e sz 0))
  else k (iq o.dst env (.nC sz d 0 l.toNat)) (sset s d (.obj e ((List.replicate l.toNat (z.map .d)).flatten)))):nB P C o env s k:=by
 refine .value fun β a w hst=>?_
 obtain⟨i,u,hi,hzu,hzs,hz1,rfl⟩:=n_ hz;have hisz:i.size=sz:=by obtain⟨i',h1,h2⟩:=kR hsz;rw[hi]at h1;cases h1;exact h2
 have hib:i.bytes=by':=by obtain⟨i',h1,h2⟩:=uS hby;rw[hi]at h1;cases h1;exact h2
 obtain⟨jl,hvl⟩:=tS (hst.ev len) hl;obtain⟨jc,hvc⟩:=tS (hst.ev cap) hc;have hrun:=fE (P:=P) (w:=w) ht hi hzu (j:=jl) (j':=jc) h0 h1 (by rw[hib];exact h2) h3;rw[hisz]at hrun;have hcells:((Array.range (c.toNat*sz)).map fun q=>(if c.toNat*sz=0 then #[]else u.cells)[q%(if c.toNat*sz=0 then #[]else u.cells).size]!).toList=(List.replicate c.toNat u.cells.toList).flatten:=by
  by_cases hq:c.toNat*sz=0
  ·have:c.toNat=0:=by rcases Nat.mul_eq_zero.1 hq with h|h<;>omega
   simp[this]
  ·simp only[az hq];rw[show u.cells.size=sz by omega];exact Ec gB
 generalize hA:((Array.range (c.toNat*sz)).map fun q=>(if c.toNat*sz=0 then #[]else u.cells)[q%(if c.toNat*sz=0 then #[]else u.cells).size]!)=arr at hrun hcells;have harr1:∀v∈arr.toList,one v=true:=by
  rw[hcells];intro v hv;simp only[cc,dR]at hv;obtain⟨l',⟨_,rfl⟩,hv⟩:=hv;exact hz1 v hv
 have hsize:arr.size=c.toNat*sz:=by
  have:=aO List.length hcells;simp only[Array.length_toList]at this;rw[this];simp;rw[hzs,hisz]
 obtain⟨β1,env1,s1,f,hst1,hd1,hk1,_,hf⟩:=qK hk hst;have hno:β1 d=.no:=by have:=hst1.inv.obs d;rw[hd1]at this;exact this
 have hexec:(execOp a.eval o).run P w=.ok (.value (.slice (some ⟨w.heap.size,0,none⟩) l.toNat c.toNat)) (w.alloc (.cells arr e)):=by simp only[execOp,hop,hvl,hvc,aV,hrun,aJ,bl]
 rcases htok with⟨rfl,hzl⟩|⟨rfl,hsame⟩
 ·have hl0:l=0:=by
   cases len with
   |const v=>
    cases v with
    |int j n=>
     have:n=0:=by
      unfold isZero at hzl;split at hzl
      ·rename_i heq;cases heq;rfl
      ·cases hzl
     subst this;simp[Act.eval]at hvl;omega
    |_=>simp[isZero]at hzl
   |_=>simp[isZero]at hzl
  subst hl0;simp only[aH]at hk1;obtain⟨β',hst',hok'⟩:=yj hst1 (id:=d) (t:=e) (e:=sz) (n:=0) (cap:=c.toNat) (c:=arr) (xs:=[]) (by rw[hno];trivial) hsize (dS _) gB harr1 rfl
   (fun _ _ _ _=>by simp[D.row])
  exact⟨_,_,β',env1,_,_,hexec,hst',hok',hk1⟩
 ·have hlc:l=c:=by
   unfold yq at hsame;split at hsame
   ·simp at hsame;subst hsame;rw[hvl]at hvc;cases hvc;rfl
   ·simp at hsame;obtain⟨rfl,rfl⟩:=hsame;simp[Act.eval]at hvl hvc;omega
   ·cases hsame
  subst hlc;simp only[au,aG]at hk1;obtain⟨β',hst',m,hp⟩:=hst1.newObj (id:=d) hd1 (c:=arr) (t:=e) (cs:=(List.replicate l.toNat ((u.cells.toList.map cD).map .d)).flatten) harr1
   (by rw[hcells];exact zf (J5 (BE _ hz1)) _)
  refine⟨_,_,β',env1,_,_,hexec,hst',?_,hk1⟩;simp only[AV.ok]at hp⊢;obtain⟨b,h4,h5⟩:=hp;cases h5;exact⟨_,l.toNat,h4,⟨ay _,gB⟩,rfl⟩
theorem Ks{O:Own}{w:World}{b:Nat}{x:D}{v:Value}(hx:D.ok O w x v)(h1:∀cs,x≠ .agg cs):∀(n o:Nat),kN O w b o (List.replicate n v)->D.row O w b o 1 (List.replicate n x)
 |0,_,_=>by simp[D.row]
 |n+1,o,h=>by
  rw[cr,D.ni];refine⟨⟨[v],rfl,fun j u hj=>?_,?_⟩,Ks hx h1 n (o+1) fun j u hj=>?_⟩
  ·cases j with
   |zero=>exact h 0 u (by simpa[cr]using hj)
   |succ j=>simp at hj
  ·cases x with
   |agg cs=>exact absurd rfl (h1 cs)
   |any=>exact⟨v,rfl,hx⟩
   |lit u=>exact⟨v,rfl,hx⟩
   |sl e nl ys=>exact⟨v,rfl,hx⟩
  ·have:=h (j+1) u (by simpa[cr]using hj);rwa [show o+(j+1)=o+1+j by omega]at this
theorem T_{v:Value}{cs:List D}:cD v≠ .agg cs:=by
 unfold cD;split
 ·intro h;cases h
 ·split<;>intro h<;>cases h
theorem Rr{t:Nat}{len cap:Operand}(hop:o.op=.makeSlice t len cap){e by':Nat}(ht:P.underlying t=some (.slice e))(hsz:kH P e=some 1)
 (hby:xV P e=some by') {zd:D} (hz:tw P e=some [zd]) (hsame:yq len cap=true)
 {l c:Int} (hl:js (ev env len)=some l) (hc:js (ev env cap)=some c) (h0:0<=l) (h1:l<=c) (h2:by'*c<=2^48) (h3:c<2^62)
 (hk:k (iq o.dst env (.d (.sl 1 none (List.replicate l.toNat zd)))) s):nB P C o env s k:=by
 refine .value fun β a w hst=>?_
 obtain⟨i,u,hi,hzu,hzs,hz1,hze⟩:=n_ hz;have hisz:i.size=1:=by obtain⟨i',h1,h2⟩:=kR hsz;rw[hi]at h1;cases h1;exact h2
 have hib:i.bytes=by':=by obtain⟨i',h1,h2⟩:=uS hby;rw[hi]at h1;cases h1;exact h2
 obtain⟨jl,hvl⟩:=tS (hst.ev len) hl;obtain⟨jc,hvc⟩:=tS (hst.ev cap) hc;have hrun:=fE (P:=P) (w:=w) ht hi hzu (j:=jl) (j':=jc) h0 h1 (by rw[hib];exact h2) h3;rw[hisz]at hrun;have hcells:((Array.range (c.toNat*1)).map fun q=>(if c.toNat*1=0 then #[]else u.cells)[q%(if c.toNat*1=0 then #[]else u.cells).size]!).toList=(List.replicate c.toNat u.cells.toList).flatten:=by
  by_cases hq:c.toNat*1=0
  ·have:c.toNat=0:=by omega
   simp[this]
  ·simp only[az hq];rw[show u.cells.size=1 by omega];exact Ec gB
 generalize hA:((Array.range (c.toNat*1)).map fun q=>(if c.toNat*1=0 then #[]else u.cells)[q%(if c.toNat*1=0 then #[]else u.cells).size]!)=arr at hrun hcells;obtain⟨v0,hv0⟩:∃v0,u.cells.toList=[v0]:=by
  have:u.cells.toList.length=1:=by simp[hzs,hisz]
  match u.cells.toList,this with
  |[x],_=>exact⟨x,rfl⟩
 rw[hv0]at hcells hze hz1;have hzd:zd=cD v0:=by simpa using hze
 have hfl:(List.replicate c.toNat [v0]).flatten=List.replicate c.toNat v0:=by
  induction c.toNat with
  |zero=>rfl
  |succ n ih=>simp only[cr,aS,ih];rfl
 rw[hfl]at hcells;have hone:one v0=true:=hz1 v0 (by simp);have hlc:l=c:=by
  unfold yq at hsame;split at hsame
  ·simp at hsame;subst hsame;rw[hvl]at hvc;cases hvc;rfl
  ·simp at hsame;obtain⟨rfl,rfl⟩:=hsame;simp[Act.eval]at hvl hvc;omega
  ·cases hsame
 subst hlc;have hexec:(execOp a.eval o).run P w=.ok (.value (.slice (some ⟨w.heap.size,0,none⟩) l.toNat l.toNat)) (w.alloc (.cells arr e)):=by simp only[execOp,hop,hvl,hvc,aV,hrun,aJ,bl]
 obtain⟨g1,g2⟩:=Ch hst (t:=e) (e:=1) (n:=l.toNat) (cap:=l.toNat) (c:=arr) (xs:=List.replicate l.toNat zd) (ay _) gB
  (fun v hv=>by rw[hcells]at hv;rw[(dR.1 hv).2];exact hone) (by simp)
  (fun O' w' _ hcl=>by
   rw[hcells,eX,bO (by simp)]at hcl;rw[hzd];exact Ks (JQ v0 hone) (fun _=>T_) _ _ hcl)
 exact⟨_,_,β,env,s,_,hexec,g1,by simpa only[AV.ok]using g2,hk⟩
theorem GR{α:Type}{z:List α}{n:Nat}:((List.replicate n z).flatten).length=n*z.length:=by
 induction n with
 |zero=>simp
 |succ n ih=>rw[cr,aS,aj,ih,bH];omega
theorem Ot{z:List D}:∀n:Nat,yC ((List.replicate n (z.map .d)).flatten)=true:=fun n=>by
 simp only[yC,cH];intro x hx;rw[cc]at hx;obtain⟨l,h1,h2⟩:=hx;rw[(dR.1 h1).2]at h2;obtain⟨d,_,rfl⟩:=a_.1 h2;rfl
theorem Rs{t:Nat}{len cap:Operand}(hop:o.op=.makeSlice t len cap){e sz by' d:Nat}(ht:P.underlying t=some (.slice e))(hsz:kH P e=some sz)
 (hby:xV P e=some by') {z:List D} (hz:tw P e=some z) (hsame:yq len cap=true)
 {l c:Int} (hl:js (ev env len)=some l) (hc:js (ev env cap)=some c) (h0:0<=l) (h1:l<=c) (h2:by'*c<=2^48) (h3:c<2^62) (_:o.dst=some d)
 (he0:0<sz) (h4:C.k<=d) (h5:(sat s d).kg=true)
 (hk:k (iq o.dst env (.kG sz d l.toNat)) (sset s d (.vf sz l.toNat ((List.replicate l.toNat (z.map .d)).flatten)))):nB P C o env s k:=by
 refine .value fun β a w hst=>?_
 obtain⟨i,u,hi,hzu,hzs,hz1,hze⟩:=n_ hz;have hisz:i.size=sz:=by obtain⟨i',h1,h2⟩:=kR hsz;rw[hi]at h1;cases h1;exact h2
 have hib:i.bytes=by':=by obtain⟨i',h1,h2⟩:=uS hby;rw[hi]at h1;cases h1;exact h2
 obtain⟨jl,hvl⟩:=tS (hst.ev len) hl;obtain⟨jc,hvc⟩:=tS (hst.ev cap) hc;have hrun:=fE (P:=P) (w:=w) ht hi hzu (j:=jl) (j':=jc) h0 h1 (by rw[hib];exact h2) h3;rw[hisz]at hrun;have hcells:((Array.range (c.toNat*sz)).map fun q=>(if c.toNat*sz=0 then #[]else u.cells)[q%(if c.toNat*sz=0 then #[]else u.cells).size]!).toList=(List.replicate c.toNat u.cells.toList).flatten:=by
  by_cases hq:c.toNat*sz=0
  ·have:c.toNat=0:=by
    rcases Nat.mul_eq_zero.1 hq with h|h
    ·exact h
    ·omega
   simp[this]
  ·simp only[az hq];rw[show u.cells.size=sz by rw[hzs,hisz]];exact Ec (by rw[hzs,hisz])
 generalize hA:((Array.range (c.toNat*sz)).map fun q=>(if c.toNat*sz=0 then #[]else u.cells)[q%(if c.toNat*sz=0 then #[]else u.cells).size]!)=arr at hrun hcells;have hlc:l=c:=by
  unfold yq at hsame;split at hsame
  ·simp at hsame;subst hsame;rw[hvl]at hvc;cases hvc;rfl
  ·simp at hsame;obtain⟨rfl,rfl⟩:=hsame;simp[Act.eval]at hvl hvc;omega
  ·cases hsame
 subst hlc;have hdead:sat s d=.dead:=by cases hs:sat s d<;>rw[hs]at h5<;>first|rfl|cases h5
 have hno:β d=.no:=by have:=hst.inv.obs d;rw[hdead]at this;exact this
 have hexec:(execOp a.eval o).run P w=.ok (.value (.slice (some ⟨w.heap.size,0,none⟩) l.toNat l.toNat)) (w.alloc (.cells arr e)):=by simp only[execOp,hop,hvl,hvc,aV,hrun,aJ,bl]
 have hzl:z.length=sz:=by rw[hze,aM,Array.length_toList,hzs,hisz]
 have harr:arr.size=l.toNat*sz:=by
  have:=aO List.length hcells;rw[GR]at this;rw[<-Array.length_toList,this,Array.length_toList,hzs,hisz]
 have hone:∀v∈arr.toList,one v=true:=fun v hv=>by
  rw[hcells,cc]at hv;obtain⟨q,h1,h2⟩:=hv;rw[(dR.1 h1).2]at h2;exact hz1 v h2
 have hzok:∀β' F w',AV.hM β' F w' (z.map .d) u.cells.toList:=fun β' F w'=>by
  rw[hze];have:∀vs:List Value,(∀v∈vs,one v=true)->AV.hM β' F w' ((vs.map cD).map .d) vs:=fun vs=>by
   induction vs with
   |nil=>intro _;simp[AV.hM]
   |cons v vs ih=>intro h;simp only[aX,AV.hM];exact⟨v,vs,rfl,by simp only[AV.ok];exact JQ v (h v (by simp)),ih fun q hq=>h q (by simp[hq])⟩
  exact this _ hz1
 obtain⟨g1,_⟩:=hst.fresh (id:=d) (ob:=.vf sz l.toNat ((List.replicate l.toNat (z.map .d)).flatten)) (p:=.pI (.slice (some ⟨w.heap.size,0,none⟩) l.toNat l.toNat) l.toNat []) (c:=arr) (t:=e) (by rw[hno];trivial)
  (fun b q ho=>by
   obtain⟨i',ho⟩:=ho;by_cases hi':i'=d
   ·subst hi';simp only[sat,aH,gM]at ho;obtain⟨v',q',p1,p2⟩:=ho;simp only[Place.pI.injEq,eV]at p1;obtain⟨rfl,rfl⟩:=p1;rcases p2 with⟨_,p2,_⟩|p2
    ·simp at p2;exact p2.1.symm
    ·simp at p2
   ·simp[sat,hi']at ho)
  (fun b hb=>by
   simp only[gF,sat,aH,gM]at hb;obtain⟨v',q',p1,p2⟩:=hb;simp only[Place.pI.injEq,eV]at p1;obtain⟨rfl,rfl⟩:=p1;rcases p2 with⟨_,p2,_⟩|p2
   ·simp at p2;exact p2.1.symm
   ·simp at p2)
  (fun β' F hok _ hp=>⟨_,[],hp,fun _ h=>by simp at h,by rw[GR,aM,hzl],by
   rcases fA l.toNat with hz0|hz0
   ·exact .inl ⟨⟨_,by rw[hz0]⟩,hz0,rfl⟩
   ·refine .inr ⟨w.heap.size,l.toNat,arr,e,rfl,dD,harr,ay _,gB,hone,hz0,by simp,?_⟩;have:=xS (rest:=[]) (Ot (z:=z) l.toNat) (zf (hzok β' F (w.alloc (.cells arr e))) l.toNat);rw[bg,<-hcells]at this;exact this⟩)
 refine⟨_,_,_,env,_,.kG sz d l.toNat,hexec,g1,?_,hk⟩;simp only[AV.ok];exact⟨_,l.toNat,by simp[gM,Place.at],ay _,fun _=>rfl,.inr ⟨w.heap.size,l.toNat,rfl,ay _,gB⟩⟩
end
theorem td{β β':gU}{s s':gL}{i j b o:Nat}{ρ:Nat->Option Nat}(hb:β' j=β i)(hs:sat s' j=(sat s i).kY ρ):tY β' s' j b o<->tY β s i b o:=by
 unfold tY;rw[hs,hb];cases sat s i<;>simp[Ob.kY]
theorem wV{β β':gU}{s s':gL}{i j b:Nat}{ρ:Nat->Option Nat}(hb:β' j=β i)(hs:sat s' j=(sat s i).kY ρ):gF β' s' j b<->gF β s i b:=by
 unfold gF;rw[hs,hb];cases sat s i<;>simp[Ob.kY]
theorem Ji{β β':gU}{s s':gL}{i b o:Nat}(hb:β' i=β i)(hs:sat s' i=sat s i):tY β' s' i b o<->tY β s i b o:=by unfold tY;rw[hs,hb]
theorem Ff{β β':gU}{s s':gL}{i b:Nat}(hb:β' i=β i)(hs:sat s' i=sat s i):gF β' s' i b<->gF β s i b:=by unfold gF;rw[hs,hb]
theorem vP:∀{mp:List fU}{c j:Nat},nJ mp c=some j->(c,j)∈mp
 |[],_,_=>fun h=>by simp[nJ]at h
 |(c',j')::r,c,j=>fun h=>by
  simp only[nJ]at h;split at h
  ·rename_i hc;cases h;subst hc;simp
  ·exact dr _ (vP h)
theorem tX:∀{mp:List fU}{c j:Nat},(mp.map (·.1)).Nodup->(c,j)∈mp->nJ mp c=some j
 |[],_,_=>fun _ h=>by simp at h
 |(c',j')::r,c,j=>fun hn h=>by
  simp only[aX,cQ]at hn;simp only[nJ];rcases bu.1 h with h2|h2
  ·cases h2;simp
  ·have:c≠c':=fun e=>hn.1 (a_.2 ⟨(c,j),h2,e⟩)
   rw[az this];exact tX hn.2 h2
theorem A7:∀{mp:List fU}{c j:Nat},oI mp j=some c->(c,j)∈mp
 |[],_,_=>fun h=>by simp[oI]at h
 |(c',j')::r,c,j=>fun h=>by
  simp only[oI]at h;split at h
  ·rename_i hc;cases h;subst hc;simp
  ·exact dr _ (A7 h)
theorem zl{s:gL}{pr:List fU}:∀{mp:List fU},(mp.map (·.1)).Nodup->∀c,sat (nD s pr mp) c=match nJ mp c with|some j=>(sat s j).kY (oI pr)|none=>.dead
 |[],_,c=>rfl
 |(c',j')::r,hn,c=>by
  simp only[aX,cQ]at hn;have ih:=zl (s:=s) (pr:=pr) hn.2 c;simp only[nD,aX,sat,nJ]at ih⊢;split
  ·rfl
  ·exact ih
theorem B7{s':gL}{all:List fU}:∀{mp:List fU}{s:gL},(mp.map (·.2)).Nodup->∀id,
 sat (tj s s' mp all) id=match oI mp id with|some c=>(sat s' c).kY (nJ all)|none=>sat s id
 |[],s,_,id=>rfl
 |(c',j')::r,s,hn,id=>by
  simp only[aX,cQ]at hn;simp only[tj,oI];rw[B7 hn.2];by_cases h:id=j'
  ·subst h;have:oI r id=none:=by
    cases hq:oI r id with
    |none=>rfl
    |some c=>exact absurd (a_.2 ⟨(c,id),A7 hq,rfl⟩) hn.1
   rw[this];simp[jg]
  ·rw[az h];cases oI r id with
   |some c=>rfl
   |none=>simp only[jg,az h]
theorem wN:∀{mp:List fU}{c j:Nat},(mp.map (·.2)).Nodup->(c,j)∈mp->oI mp j=some c
 |[],_,_=>fun _ h=>by simp at h
 |(c',j')::r,c,j=>fun hn h=>by
  simp only[aX,cQ]at hn;simp only[oI];rcases bu.1 h with h2|h2
  ·cases h2;simp
  ·have:j≠j':=fun e=>hn.1 (a_.2 ⟨(c,j),h2,e⟩)
   rw[az this];exact wN hn.2 h2
theorem Hq{β β':gU}{O:Own}{w:World}{ρ:Nat->Option Nat}(hr:∀i j,ρ i=some j->β' j=β i):∀{xs:List AV}{vs:List Value},AV.hM β O w xs vs->
 AV.hM β' O w (xs.map fun x=>x.kY ρ) vs
 |[],vs=>fun h=>by simpa[AV.hM]using h
 |x::xs,vs=>fun h=>by
  simp only[AV.hM,aX]at h⊢;obtain⟨v,r,h1,h2,h3⟩:=h;exact⟨v,r,h1,AV.xd hr _ _ h2,Hq hr h3⟩
def PW(E:Ending->Value->Prop)(P:Program)(f:Nat)(args:List AV)(s:gL)(k:Nat)(R:AV->gL->Prop):Prop:=
 ∀(C:Ctx)(vs:Array Value),C.s=s->C.k=k->Inv C C.β C.s C.w->AV.hM C.β (C.gP C.β C.s) C.w args vs.toList->
  Calls P f vs C.w fun e w'=>∃v x β' s',E e v/\Inv C β' s' w'/\AV.ok β' (C.gP β' s') w' x v/\R x s'
def Uf(E:Ending->Value->Prop)(P:Program)(k0 f:Nat)(args:List AV)(env:List AV)(s:gL)(K:AV->List AV->gL->Prop):Prop:=
 ∃(pr nw:List fU)(R:AV->gL->Prop),
  pr.map (·.1)=List.range pr.length/\((pr++nw).map (·.1)).Nodup/\((pr++nw).map (·.2)).Nodup/\
  (∀p∈nw,sat s p.2=.dead/\k0<=p.2)/\
  PW E P f (args.map fun x=>x.kY (oI pr)) (nD s pr pr) pr.length R/\
  ∀x s',R x s'->K (x.kY (nJ (pr++nw))) env (tj s s' (pr++nw) (pr++nw))
theorem GG{E:Ending->Value->Prop}{P:Program}{C:Ctx}{f:Nat}{args env:List AV}{s:gL}{K:AV->List AV->gL->Prop}(hk:Uf E P C.k f args env s K){β:gU}{a:Act}{w:World}
 (hst:St C β env s a w) {vs:Array Value} (hvs:AV.hM β (C.gP β s) w args vs.toList):
 Calls P f vs w fun e w'=>∃v x β' s',E e v/\St C β' env s' a w'/\AV.ok β' (C.gP β' s') w' x v/\K x env s':=by
 obtain⟨pr,nw,R,hpr,hn1,hn2,hnw,hcall,hR⟩:=hk;have hp1:(pr.map (·.1)).Nodup:=by rw[aQ]at hn1;exact(dm.1 hn1).1
 have hp2:(pr.map (·.2)).Nodup:=by rw[aQ]at hn2;exact(dm.1 hn2).1
 let βc:gU:=fun c=>match nJ pr c with|some j=>β j|none=>.no
 have hβc:∀c j,(c,j)∈pr->βc c=β j:=fun c j h=>by show(match nJ pr c with|some j=>β j|none=>.no)=_;rw[tX hp1 h]
 have hsc:∀c j,(c,j)∈pr->sat (nD s pr pr) c=(sat s j).kY (oI pr):=fun c j h=>by rw[zl hp1,tX hp1 h]
 have hscn:∀c,nJ pr c=none->sat (nD s pr pr) c=.dead/\βc c=.no:=fun c h=>by rw[zl hp1,h];exact⟨rfl,by show(match nJ pr c with|some j=>β j|none=>.no)=_;rw[h]⟩
 have hownc:∀b o,own βc (nD s pr pr) b o<->∃c j,(c,j)∈pr/\tY β s j b o:=fun b o=>by
  rw[FM];constructor
  ·rintro⟨c,h⟩;cases hq:nJ pr c with
   |none=>unfold tY at h;rw[(hscn c hq).1]at h;exact h.elim
   |some j=>have hm:=vP hq;exact⟨c,j,hm,(td (hβc c j hm) (hsc c j hm)).1 h⟩
  ·rintro⟨c,j,hm,h⟩;exact⟨c,(td (hβc c j hm) (hsc c j hm)).2 h⟩
 have hblkc:∀c b,gF βc (nD s pr pr) c b->∃j,(c,j)∈pr/\gF β s j b:=fun c b h=>by
  cases hq:nJ pr c with
  |none=>unfold gF at h;rw[(hscn c hq).1]at h;exact h.elim
  |some j=>have hm:=vP hq;exact⟨j,hm,(wV (hβc c j hm) (hsc c j hm)).1 h⟩
 let C':Ctx:={O:=fun b o=>C.O b o\/∃id,(∀c,(c,id)∉pr)/\tY β s id b o,β:=βc,s:=nD s pr pr,w:=w,k:=pr.length};have hOown:∀b o,C.O b o->¬own β s b o:=fun b o h1 h2=>by
  have:=hst.inv.low b o h1;rcases hst.inv.rH b o h2 with h3|h3
  ·exact this.2 h3
  ·omega
 have hforb:∀b o,C'.gP βc (nD s pr pr) b o<->C.gP β s b o:=fun b o=>by
  constructor
  ·rintro((h|⟨id,_,h⟩)|h)
   ·exact .inl h
   ·exact .inr ⟨id,h⟩
   ·obtain⟨c,j,_,h⟩:=(hownc b o).1 h;exact .inr ⟨j,h⟩
  ·rintro(h|⟨id,h⟩)
   ·exact .inl (.inl h)
   ·by_cases hq:∃c,(c,id)∈pr
    ·obtain⟨c,hc⟩:=hq;exact .inr ((hownc b o).2 ⟨c,id,hc,h⟩)
    ·exact .inl (.inr ⟨id,fun c hc=>hq ⟨c,hc⟩,h⟩)
 have hforbE:C'.gP βc (nD s pr pr)=C.gP β s:=by funext b o;exact propext (hforb b o)
 have hinρ:∀i j,oI pr i=some j->βc j=β i:=fun i j h=>hβc j i (A7 h)
 have hInv:Inv C' C'.β C'.s C'.w:=by
  refine⟨ay _,rfl,fun _ _ _ h _=>h,fun _ _ _=>rfl,fun _ _ h=>.inl h,fun id b h=>.inl ⟨id,h⟩,fun _ _=>.refl _,?_,?_,?_⟩
  ·rintro b o (h|⟨id,hid,h⟩)
   ·refine⟨eA (hst.inv.low b o h).1 hst.inv.size,fun h2=>?_⟩;obtain⟨c,j,_,h3⟩:=(hownc b o).1 h2;exact hOown b o h ⟨j,h3⟩
   ·refine⟨hst.inv.vq h.block,fun h2=>?_⟩;obtain⟨c,j,hm,h3⟩:=(hownc b o).1 h2;have:=hst.inv.inj id j b h.block h3.block;subst this;exact hid c hm
  ·intro c;show vG βc (C'.gP βc (nD s pr pr)) w c (sat (nD s pr pr) c);rw[hforbE];cases hq:nJ pr c with
   |none=>rw[(hscn c hq).1];exact(hscn c hq).2
   |some j=>
    have hm:=vP hq;rw[hsc c j hm];have ho:=hst.inv.obs j;cases hs:sat s j with
    |dead=>rw[hs]at ho;exact(hβc c j hm).trans ho
    |obj t cs=>
     rw[hs]at ho;obtain⟨b,us,h1,h2,h3,h4⟩:=ho;exact⟨b,us,by rw[hβc c j hm,h1],h2,h3,h4.imp fun _ h=>AV.vL hinρ _ _ h⟩
    |tok t e n=>
     rw[hs]at ho;obtain⟨u,h1,h2⟩:=ho;exact⟨u,by rw[hβc c j hm,h1],h2⟩
    |iM t e n cs=>
     rw[hs]at ho;obtain⟨u,h1,h2⟩:=ho;exact⟨u,by rw[hβc c j hm,h1],h2⟩
    |pI t e n cs=>
     rw[hs]at ho;obtain⟨u,bs,h1,h0,h2⟩:=ho;refine⟨u,bs,by rw[hβc c j hm,h1],h0,?_⟩;rw[ov];exact h2.imp (fun x v=>r_ fun hx=>AV.xd hinρ _ _ hx) (fun _ _=>rfl) (fun _ _ _=>rfl)
    |vf e n cs=>
     rw[hs]at ho;obtain⟨u,bs,h1,h0,h2⟩:=ho;refine⟨u,bs,by rw[hβc c j hm,h1],h0,?_⟩;rw[ov];exact h2.imp (fun x v=>r_ fun hx=>AV.xd hinρ _ _ hx) (fun _ _=>rfl) (fun _ _ _ _=>rfl)
    |mp P k es=>
     rw[hs]at ho;obtain⟨b,h1,h2⟩:=ho;exact⟨b,by rw[hβc c j hm,h1],h2⟩
  ·intro i i' b h1 h2;obtain⟨j,hm,h3⟩:=hblkc i b h1;obtain⟨j',hm',h4⟩:=hblkc i' b h2;have:=hst.inv.inj j j' b h3 h4;subst this;have e1:=wN hp2 hm;have e2:=wN hp2 hm';rw[e1]at e2;cases e2;rfl
 refine(hcall C' vs rfl rfl hInv (by show AV.hM βc (C'.gP βc (nD s pr pr)) w _ _;rw[hforbE];exact Hq hinρ hvs)).mono ?_;rintro e w' ⟨v,x,β',s',hE,hi',hx,hr⟩;let βr:gU:=fun id=>match oI (pr++nw) id with|some c=>β' c|none=>β id
 have hmem:∀c j,(c,j)∈pr++nw->βr j=β' c/\sat (tj s s' (pr++nw) (pr++nw)) j=(sat s' c).kY (nJ (pr++nw)):=fun c j h=>by
  have hq:=wN hn2 h;exact⟨by show(match oI (pr++nw) j with|some c=>β' c|none=>β j)=_;rw[hq],by rw[B7 hn2,hq]⟩
 have hnot:∀j,(∀c,(c,j)∉pr++nw)->βr j=β j/\sat (tj s s' (pr++nw) (pr++nw)) j=sat s j:=fun j h=>by
  have hq:oI (pr++nw) j=none:=by
   cases hq:oI (pr++nw) j with
   |none=>rfl
   |some c=>exact absurd (A7 hq) (h c)
  exact⟨by show(match oI (pr++nw) j with|some c=>β' c|none=>β j)=_;rw[hq],by rw[B7 hn2,hq]⟩
 have hcase:∀j,(∃c,(c,j)∈pr++nw)\/∀c,(c,j)∉pr++nw:=fun j=>by
  by_cases h:∃c,(c,j)∈pr++nw
  ·exact .inl h
  ·exact .inr fun c hc=>h ⟨c,hc⟩
 have hblk1:∀c j b,(c,j)∈pr++nw->(gF βr (tj s s' (pr++nw) (pr++nw)) j b<->gF β' s' c b):=fun c j b h=>wV (hmem c j h).1 (hmem c j h).2
 have hown1:∀c j b o,(c,j)∈pr++nw->(tY βr (tj s s' (pr++nw) (pr++nw)) j b o<->tY β' s' c b o):=fun c j b o h=>td (hmem c j h).1 (hmem c j h).2
 have hblk2:∀j b,(∀c,(c,j)∉pr++nw)->(gF βr (tj s s' (pr++nw) (pr++nw)) j b<->gF β s j b):=fun j b h=>Ff (hnot j h).1 (hnot j h).2
 have hown2:∀j b o,(∀c,(c,j)∉pr++nw)->(tY βr (tj s s' (pr++nw) (pr++nw)) j b o<->tY β s j b o):=fun j b o h=>Ji (hnot j h).1 (hnot j h).2
 have hpsub:∀j,(∀c,(c,j)∉pr++nw)->∀c,(c,j)∉pr:=fun j h c hc=>h c (bz _ hc)
 have hnewdead:∀c j,(c,j)∈nw->sat s j=.dead/\β j=.no:=fun c j h=>by
  have h1:=(hnw _ h).1;have:=hst.inv.obs j;rw[h1]at this;exact⟨h1,this⟩
 have m:mT β s w βr (tj s s' (pr++nw) (pr++nw)) w':=by
  refine⟨hi'.size,hi'.io,fun b o v hc hno=>hi'.keep b o v hc fun h=>?_,fun b hb hno=>hi'.uy b hb fun c h=>?_,fun b o ho=>?_,fun j b hb=>?_,fun j=>?_⟩
  ·obtain⟨c,j,_,h⟩:=(hownc b o).1 h;exact hno ⟨j,h⟩
  ·obtain⟨j,_,h⟩:=hblkc c b h;exact hno j h
  ·obtain⟨j,hj⟩:=FM.1 ho;rcases hcase j with⟨c,hc⟩|hc
   ·rcases hi'.rH b o ⟨c,(hown1 c j b o hc).1 hj⟩with h|h
    ·obtain⟨c',j',_,h⟩:=(hownc b o).1 h;exact .inl ⟨j',h⟩
    ·exact .inr h
   ·exact .inl ⟨j,(hown2 j b o hc).1 hj⟩
  ·rcases hcase j with⟨c,hc⟩|hc
   ·rcases hi'.vt c b ((hblk1 c j b hc).1 hb)with⟨i,h⟩|h
    ·obtain⟨j',_,h⟩:=hblkc i b h;exact .inl ⟨j',h⟩
    ·exact .inr h
   ·exact .inl ⟨j,(hblk2 j b hc).1 hb⟩
  ·rcases hcase j with⟨c,hc⟩|hc
   ·rw[(hmem c j hc).1];rcases aI.1 hc with hc|hc
    ·have hlt:c<pr.length:=by
      have:c∈pr.map (·.1):=a_.2 ⟨(c,j),hc,rfl⟩;rw[hpr]at this;exact fc.1 this
     have:=hi'.pl c hlt;rwa [show C'.β c=β j from hβc c j hc]at this
    ·rw[(hnewdead c j hc).2];trivial
   ·rw[(hnot j hc).1];exact .refl _
 have hforb':∀b o,C.gP βr (tj s s' (pr++nw) (pr++nw)) b o->C'.gP β' s' b o:=fun b o h=>by
  rcases h with h|h
  ·exact .inl (.inl h)
  ·obtain⟨j,hj⟩:=FM.1 h;rcases hcase j with⟨c,hc⟩|hc
   ·exact .inr ⟨c,(hown1 c j b o hc).1 hj⟩
   ·exact .inl (.inr ⟨j,hpsub j hc,(hown2 j b o hc).1 hj⟩)
 have hback:∀y u,AV.ok β' (C'.gP β' s') w' y u->AV.ok βr (C.gP βr (tj s s' (pr++nw) (pr++nw))) w' (y.kY (nJ (pr++nw))) u:=fun y u h=>by
  have h1:=AV.xd (β':=βr) (ρ:=nJ (pr++nw)) (fun i j hij=>(hmem i j (vP hij)).1) y u h;exact AV.kL (fun b o v hc hno=>⟨hc,fun h=>hno (hforb' b o h)⟩) (fun _=>.refl _) _ _ h1
 have hbacks:∀ys us,AV.hM β' (C'.gP β' s') w' ys us->AV.hM βr (C.gP βr (tj s s' (pr++nw) (pr++nw))) w' (AV.iI (nJ (pr++nw)) ys) us:=fun y u h=>by
  have h1:=AV.vL (β':=βr) (ρ:=nJ (pr++nw)) (fun i j hij=>(hmem i j (vP hij)).1) y u h;exact AV.jI (fun b o v hc hno=>⟨hc,fun h=>hno (hforb' b o h)⟩) (fun _=>.refl _) _ _ h1
 refine⟨v,_,βr,_,hE,hst.move m (fun j=>?_) (fun i j b h1 h2=>?_),hback x v hx,hR x s' hr⟩
 ·rcases hcase j with⟨c,hc⟩|hc
  ·rw[(hmem c j hc).2];have ho:=hi'.obs c;cases hs:sat s' c with
   |dead=>rw[hs]at ho;exact(hmem c j hc).1.trans ho
   |obj t cs=>
    rw[hs]at ho;obtain⟨b,us,h1,h2,h3,h4⟩:=ho;exact⟨b,us,by rw[(hmem c j hc).1,h1],h2,h3,h4.imp fun _ h=>hbacks _ _ h⟩
   |tok t e n=>
    rw[hs]at ho;obtain⟨u,h1,h2⟩:=ho;exact⟨u,by rw[(hmem c j hc).1,h1],h2⟩
   |iM t e n cs=>
    rw[hs]at ho;obtain⟨u,h1,hl,h2⟩:=ho;refine⟨u,by rw[(hmem c j hc).1,h1],hl,?_⟩;rcases h2 with h2|⟨b,cap,vs,h2,h3,h4,h5,h6,h7,pre,rest,h8,h9⟩
    ·exact .inl h2
    ·exact .inr ⟨b,cap,vs,h2,h3,h4,h5,h6,h7,pre,rest,h8,D.jI (fun b o v hc hno=>⟨hc,fun h=>hno (hforb' b o h)⟩) _ _ h9⟩
   |pI t e n cs=>
    rw[hs]at ho;obtain⟨u,bs,h1,h0,h2⟩:=ho;refine⟨u,bs,by rw[(hmem c j hc).1,h1],h0,?_⟩;rw[ov];exact h2.imp (fun x v=>r_ (hback x v)) (fun _ _=>rfl) (fun _ _ _=>rfl)
   |vf e n cs=>
    rw[hs]at ho;obtain⟨u,bs,h1,h0,h2⟩:=ho;refine⟨u,bs,by rw[(hmem c j hc).1,h1],h0,?_⟩;rw[ov];exact h2.imp (fun x v=>r_ (hback x v)) (fun _ _=>rfl) (fun _ _ _ _=>rfl)
   |mp P k es=>
    rw[hs]at ho;obtain⟨b,h1,h2⟩:=ho;exact⟨b,by rw[(hmem c j hc).1,h1],h2.imp rfl fun x v h=>D.kL (fun b o v hc hno=>⟨hc,fun h=>hno (hforb' b o h)⟩) _ _ h⟩
  ·rw[(hnot j hc).2];refine(hst.inv.obs j).wR m (hnot j hc).1 (fun b hb=>hi'.uy b (hst.inv.vq hb) fun c h=>?_) rfl;obtain⟨j',hm,h⟩:=hblkc c b h;have:=hst.inv.inj j j' b hb h;subst this;exact hpsub j hc c hm
 ·have key:∀c i j,(c,i)∈pr++nw->(∀c,(c,j)∉pr++nw)->gF β' s' c b->gF β s j b->False:=by
   intro c i j hc hj h3 h4;rcases hi'.vt c b h3 with⟨c',h5⟩|h5
   ·obtain⟨j',hm,h5⟩:=hblkc c' b h5;have:=hst.inv.inj j j' b h4 h5;subst this;exact hpsub j hj c' hm
   ·have:=hst.inv.vq h4;exact absurd this (Nat.not_lt.2 h5)
  rcases hcase i with⟨c,hc⟩|hc<;>rcases hcase j with⟨c',hc'⟩|hc'
  ·have:=hi'.inj c c' b ((hblk1 c i b hc).1 h1) ((hblk1 c' j b hc').1 h2);subst this;have e1:=tX hn1 hc;have e2:=tX hn1 hc';rw[e1]at e2;cases e2;rfl
  ·exact(key c i j hc hc' ((hblk1 c i b hc).1 h1) ((hblk2 j b hc').1 h2)).elim
  ·exact(key c' j i hc' hc ((hblk1 c' j b hc').1 h2) ((hblk2 i b hc).1 h1)).elim
  ·exact hst.inv.inj i j b ((hblk2 i b hc).1 h1) ((hblk2 j b hc').1 h2)
theorem IA{P:Program}{C:Ctx}{f:Nat}{args env:List AV}{s:gL}{K:AV->List AV->gL->Prop}(hk:JZ P C.k f args env s K){β:gU}{a:Act}{w:World}
 (hst:St C β env s a w) {vs:Array Value} (hvs:AV.hM β (C.gP β s) w args vs.toList):
 Calls P f vs w fun e w'=>∃v x β' s',e=.returned v/\St C β' env s' a w'/\AV.ok β' (C.gP β' s') w' x v/\K x env s':=
 GG (E:=fun e v=>e=.returned v) hk hst hvs
theorem zA{P:Program}{k0 f:Nat}{args env:List AV}{s:gL}{K:AV->List AV->gL->Prop}(h:JZ P k0 f args env s K):Ce P k0 f args env s K:=fun C β a w vs hC hst hvs=>by
 subst hC;exact(IA h hst hvs).mono fun e w' ⟨v,x,β',s',h1,h2,h3,h4⟩=>⟨v,x,β',env,s',h1,h2,h3,h4⟩
theorem Iz{P:Program}{k0 f:Nat}{args env:List AV}{s:gL}{K K':AV->List AV->gL->Prop}(h:Ce P k0 f args env s K)(hK:∀x env s,K x env s->K' x env s):
 Ce P k0 f args env s K':=fun C β a w vs hC hst hvs=>(h C β a w vs hC hst hvs).mono fun _ _ ⟨v,x,β',env',s',h1,h2,h3,h4⟩=>⟨v,x,β',env',s',h1,h2,h3,hK _ _ _ h4⟩
theorem He{α:Type}:∀(ks:List Lit)(E:List (Lit×α)),E.Pairwise (fun p q=>p.1≠q.1)->(∀p∈E,p.1∈ks)->E.length<=ks.length
 |[],E,_,h=>by cases E with
  |nil=>simp
  |cons p r=>exact absurd (h p (by simp)) (by simp)
 |x::ks,E,hp,hs=>by
  have h1:=He ks (E.filter fun p=>!decide (p.1=x)) (hp.filter _) fun p hp'=>by
   have h2:=dG.1 hp';have h3:=hs p h2.1;simp only[bu]at h3;rcases h3 with h3|h3
   ·simp[h3]at h2
   ·exact h3
  have h2:∀(E:List (Lit×α)),E.Pairwise (fun p q=>p.1≠q.1)->E.length<=(E.filter fun p=>!decide (p.1=x)).length+1:=by
   intro E;induction E with
   |nil=>intro _;simp
   |cons p r ihr=>
    intro hp;rw[fB]at hp;by_cases hx:p.1=x
    ·have:r.filter (fun p=>!decide (p.1=x))=r:=List.filter_eq_self.2 fun q hq=>by
      have:=hp.1 q hq;rw[hx]at this;simpa using fun e=>this e.symm
     rw[ec];simp[hx,this]
    ·rw[ec];have:=ihr hp.2;simp[hx];omega
  have:=h2 E hp;simp only[ai];omega
theorem AG.size{O:Own}{w:World}{P:Program}{k:Nat}{es:List (Lit×D)}{E:DataW Value}{b n:Nat}(K:Maps.Keyed P k)(h1:w.ownsMap P k Sd b n E)
 (h2:∀kl,match yB es kl with
  |none=>Maps.has E kl=false
  |some x=>∃v,(∀z,E.atKey kl z=.held v)/\one v=true/\D.ok O w x v):Maps.size E<=es.length:=by
 have ht:=h1.tidy K;obtain⟨es0,clock,hb,F,hn,hE⟩:=h1;obtain⟨ps,hps,hp⟩:=ht;subst hE;cases hps;rw[Maps.size_eq];have:=He (es.map (·.1)) _ hp fun p hp'=>?_
 ·simpa using this
 ·have:=h2 p.1;cases hm:yB es p.1 with
  |some x=>exact Hl hm
  |none=>
   rw[hm]at this;rw[Maps.has_eq,fG]at this;have h3:=this p hp';have h4:=Maps.fit_keys F p ((WideShapes.sorted_perm _).mem_iff.1 hp');obtain⟨v,hv⟩:=h4;rw[WideAt.sameKey_self (K.key hv)]at h3;exact absurd rfl h3
section
variable{P:Program}{C:Ctx}{o:Oper}{env:List AV}{s:gL}{k:List AV->gL->Prop}
end
theorem D.zg{O:Own}{w:World}{xs:List D}{vs:List Value}(h:D.hM O w xs vs)(q:Nat):D.hM O w (xs.take q) (vs.take q):=by
 rw[D.jQ]at h⊢;refine⟨by simp[h.1],fun i x v hx hv=>?_⟩;rw[bX]at hx hv;split at hx
 ·rename_i hq;rw[ah hq]at hv;exact h.2 i x v hx hv
 ·cases hx
theorem Inv.Yn{C:Ctx}{β:gU}{s:gL}{w:World}(h:Inv C β s w)(j:Nat)(hj:C.k<=j){β2:gU}{s2:gL}(hβ:∀i,i≠j->β2 i=β i)(hs:∀i,i≠j->sat s2 i=(sat s i).kill j)
 (hown:∀b o,own β2 s2 b o->own β s b o) (hblk:∀i b,gF β2 s2 i b->gF β s i b) (hob:vG β2 (C.gP β2 s2) w j (sat s2 j)):
 Inv C β2 s2 w/\∀{x:AV}{v:Value},AV.ok β (C.gP β s) w x v->AV.ok β2 (C.gP β2 s2) w (x.kY (gV j)) v:=by
 have ko:∀{x:AV}{v:Value},AV.ok β (C.gP β s) w x v->AV.ok β2 (C.gP β2 s2) w (x.kY (gV j)) v:=fun{x v} hx=>by
  have h1:AV.ok β2 (C.gP β s) w (x.kY (gV j)) v:=AV.xd (fun i q hij=>by
   unfold gV at hij;split at hij
   ·cases hij
   ·rename_i hne;cases hij;rw[hβ i hne]) x v hx
  exact AV.kL (fun b o v hc hn=>⟨hc,fun h=>hn (h.imp (fun x=>x) (hown b o))⟩) (fun _=>.refl _) _ _ h1
 have kos:∀{xs:List AV}{vs:List Value},AV.hM β (C.gP β s) w xs vs->AV.hM β2 (C.gP β2 s2) w (AV.iI (gV j) xs) vs:=by
  intro xs;induction xs with
  |nil=>intro vs h;simpa[AV.iI,AV.hM]using h
  |cons x xs ih=>
   intro vs h;simp only[AV.iI,AV.hM]at h⊢;obtain⟨v,r,h1,h2,h3⟩:=h;exact⟨v,r,h1,ko h2,ih h3⟩
 have kd:∀{xs:List D}{vs:List Value},D.hM (C.gP β s) w xs vs->D.hM (C.gP β2 s2) w xs vs:=fun{xs vs} h=>
  D.jI (fun b o _ hc hn=>⟨hc,fun h=>hn (h.imp (fun x=>x) (hown b o))⟩) xs vs h
 refine⟨⟨h.size,h.io,h.keep,h.uy,fun b o ho=>h.rH b o (hown b o ho),fun id b hb=>h.vt id b (hblk id b hb),fun i hi=>?_,h.low,fun i=>?_,fun i q b hi hq=>h.inj i q b (hblk i b hi) (hblk q b hq)⟩,ko⟩
 ·rw[hβ i gB];exact h.pl i hi
 ·by_cases hi:i=j
  ·subst hi;exact hob
  ·rw[hs i hi];have ho:=h.obs i;have hb:=hβ i hi;cases hq:sat s i with
   |dead=>rw[hq]at ho;simp only[Ob.kill,vG]at ho⊢;rw[hb];exact ho
   |obj t cs=>
    rw[hq]at ho;obtain⟨b,vs,h1,h2,h0,h3⟩:=ho;exact⟨b,vs,by rw[hb];exact h1,h2,h0,h3.imp fun _ h=>kos h⟩
   |tok t e n=>
    rw[hq]at ho;obtain⟨u,h1,h2⟩:=ho;exact⟨u,by rw[hb];exact h1,h2⟩
   |iM t e n cs=>
    rw[hq]at ho;obtain⟨u,h1,hl,h2⟩:=ho;refine⟨u,by rw[hb];exact h1,hl,?_⟩;rcases h2 with h2|⟨b,cap,vs,h2,h3,h4,h5,h6,h7,pre,rest,h8,h9⟩
    ·exact .inl h2
    ·exact .inr ⟨b,cap,vs,h2,h3,h4,h5,h6,h7,pre,rest,h8,kd h9⟩
   |pI t e n cs=>
    rw[hq]at ho;obtain⟨u,bs,h1,h0,h2⟩:=ho;refine⟨u,bs,by rw[hb];exact h1,h0,?_⟩;rw[ov];exact h2.imp (fun x v=>r_ ko) (fun _ _=>rfl) (fun _ _ _=>rfl)
   |vf e n cs=>
    rw[hq]at ho;obtain⟨u,bs,h1,h0,h2⟩:=ho;refine⟨u,bs,by rw[hb];exact h1,h0,?_⟩;rw[ov];exact h2.imp (fun x v=>r_ ko) (fun _ _=>rfl) (fun _ _ _ _=>rfl)
   |mp P k es=>
    rw[hq]at ho;obtain⟨b,h1,h2⟩:=ho;exact⟨b,by rw[hb];exact h1,h2.imp rfl fun x v hx=>D.kL (fun b o _ hc hn=>⟨hc,fun h=>hn (h.imp (fun x=>x) (hown b o))⟩) _ _ hx⟩
theorem Inv.cut{C:Ctx}{β:gU}{s:gL}{w:World}(h:Inv C β s w){j t e n q:Nat}{cs:List D}(hj:C.k<=j)(ho:sat s j=.iM t e n cs)(hq:q<=n){v:Value}{cap:Nat}{a:Option Addr}(hv:β j=.tok (.slice a n cap) n):
 let β2:=gM β j (.tok (.slice a q cap) q);let s2:=sset (iL j s) j (.iM t e q (cs.take (q*e)))
 Inv C β2 s2 w/\∀{x:AV}{v:Value},AV.ok β (C.gP β s) w x v->AV.ok β2 (C.gP β2 s2) w (x.kY (gV j)) v:=by
 intro β2 s2;have hsat:∀i,sat s2 i=if i=j then .iM t e q (cs.take (q*e))else(sat s i).kill j:=fun i=>by
  show sat (sset (iL j s) j _) i=_;rw[jg];by_cases hi:i=j
  ·simp[hi]
  ·rw[az hi,az hi,tg,az hi]
 have hβ:∀i,i≠j->β2 i=β i:=fun i hi=>by simp[β2,gM,hi]
 have hβj:β2 j=.tok (.slice a q cap) q:=by simp[β2,gM]
 have hown:∀b o,own β2 s2 b o->own β s b o:=fun b o ⟨i,hi⟩=>by
  rw[hsat]at hi;by_cases hij:i=j
  ·subst hij;rw[ah rfl]at hi;obtain⟨cap',hi⟩:=hi;rw[hβj]at hi;refine⟨i,?_⟩;rw[ho];simp only[Place.tok.injEq,cA]at hi;exact⟨cap,by rw[hv,hi.1.1]⟩
  ·rw[az hij]at hi;refine⟨i,?_⟩;have hb:=hβ i hij;cases hs:sat s i<;>rw[hs]at hi<;>simp only[Ob.kill]at hi⊢<;>first|exact hi|(rw[hb]at hi;exact hi)
 have hblk:∀i b,gF β2 s2 i b->gF β s i b:=fun i b hi=>by
  unfold gF at hi⊢;rw[hsat]at hi;by_cases hij:i=j
  ·subst hij;rw[ah rfl]at hi;obtain⟨cap',hi⟩:=hi;rw[hβj]at hi;rw[ho];simp only[Place.tok.injEq,cA]at hi;exact⟨cap,by rw[hv,hi.1.1]⟩
  ·rw[az hij]at hi;have hb:=hβ i hij;cases hs:sat s i<;>rw[hs]at hi<;>simp only[Ob.kill]at hi⊢<;>first|exact hi|(rw[hb]at hi;exact hi)
 refine h.Yn j hj hβ (fun i hi=>by rw[hsat,az hi]) hown hblk ?_;rw[hsat,ah rfl];have h1:=h.obs j;rw[ho]at h1;obtain⟨u,g1,g2,g3⟩:=h1;rw[hv]at g1;cases g1;refine⟨_,hβj,?_,?_⟩
 ·rw[aY,g2];exact fM (cq e hq)
 ·rcases g3 with⟨g3,g4⟩|⟨b,cap',vs,g3,g4,g5,g6,g7,g8,pre,rest,g9,g10⟩
  ·left;cases g3;exact⟨by rw[Nat.le_zero.1 hq],Nat.le_zero.1 hq⟩
  ·cases g3;refine .inr ⟨b,cap,vs,rfl,g4,g5,gB,g7,g8,pre.take (q*e),pre.drop (q*e)++rest,?_,?_⟩
   ·rw[<-aL,bL];exact g9
   ·refine D.zg (D.jI (fun b o _ hc hn=>⟨hc,fun h=>hn (h.imp (fun x=>x) (hown b o))⟩) _ _ g10) _
section
variable{P:Program}{C:Ctx}{o:Oper}{env:List AV}{s:gL}{k:List AV->gL->Prop}
theorem Vb{t e0 e:Nat}{x y:Operand}(hop:o.op=.slice t x none (some y) none)(hu:P.underlying t=some (.slice e0))(hn:kH P e0=some e)
 {e' j n:Nat} (hx:ev env x=.kG e' j n) {h:Int} (hy:js (ev env y)=some h) (hk:Ro C.k e e' j n h env s (fun r env s=>k (iq o.dst env r) s) (sat s j)):nB P C o env s k:=by
 unfold Ro at hk;split at hk
 case h_2=>exact hk.elim
 rename_i t' e2 m cs hs;obtain⟨rfl,rfl,rfl,h0,h1,hj,hk⟩:=hk;obtain⟨i',hi',hin⟩:=kR hn;refine .value fun β a w hst=>?_
 have hxv:=hst.ev x;rw[hx]at hxv;simp only[AV.ok]at hxv;obtain⟨u,m,hat,hnm,huv,hform⟩:=hxv;have hob:=hst.inv.obs j;rw[hs]at hob;obtain⟨u',hβ,hlen,hgro⟩:=hob;rw[hβ]at hat;obtain⟨rfl,rfl⟩:=hat;have hv:=huv rfl;obtain⟨ad,cap,hslice,hcap⟩:∃ad cap,a.eval x=.slice ad n cap/\n<=cap:=by
  rcases hform with⟨ad,h2,h3⟩|⟨b,cap,h2,h3,_⟩
  ·subst h3;exact⟨ad,0,h2,ay _⟩
  ·exact⟨_,cap,h2,h3⟩
 have hmin:NG h.toNat n=h.toNat:=by show min h.toNat n=h.toNat;omega
 rw[hmin]at hk;have hrun:=yz (P:=P) hst (lo:=none) (hi:=some y) n cap (l:=0) (h:=h) (by rfl) (by simpa[Fg]using hy) (dB _) h0 h1 hcap;have hβ':β j=.tok (.slice ad n cap) n:=by rw[hβ,<-hv,hslice]
 obtain⟨hI,hE⟩:=hst.inv.cut (v:=.slice ad n cap) hj hs (q:=h.toNat) gB hβ';refine⟨.slice ad h.toNat cap,w,_,AV.iI (gV j) env,_,_,?_,⟨hst.defers,hI,by rw[zi];exact hst.len,fun i z hz=>?_⟩,?_,hk⟩
 ·simp only[execOp,hop,Instr.sliceAt,aV,bf hu,aJ,hslice];have hrun':=hrun;simp only[eP,aT]at hrun';simp[Instr.slice,bf hu,hrun',Go.sizeOf,typeInfo,hi',hin,dH];cases ad with
  |none=>simp
  |some b=>
   rcases hform with⟨ad',h2,h3⟩|⟨b',cap',h2,h3,_⟩
   ·rw[hslice]at h2;cases h2;simp
   ·rw[hslice]at h2;cases h2;simp[dH]
 ·rw[xg]at hz;obtain⟨z',hz',rfl⟩:=aF.1 hz;exact hE (hst.env i z' hz')
 ·simp only[AV.ok];refine⟨.slice ad h.toNat cap,h.toNat,by simp[gM,Place.at],ay _,fun _=>rfl,?_⟩;rcases hform with⟨ad',h2,h3⟩|⟨b,cap',h2,h3,h4⟩
  ·rw[hslice]at h2;cases h2;exact .inl ⟨ad,by rw[show h.toNat=0 by omega],gB⟩
  ·rw[hslice]at h2;cases h2;exact .inr ⟨b,cap,rfl,gB,h4⟩
theorem U9{t:Nat}{x:Operand}(hop:o.op=.makeInterface t x){d:TypeDesc}(hu:P.underlying t=some d)(hd:∀ms,d≠ .interface ms)(hx:ev env x=.d (.agg []))
 (hk:k (iq o.dst env (.d (.lit (.iface t (.agg #[]))))) s):nB P C o env s k:=by
 refine .pure (x:=.d (.lit (.iface t (.agg #[])))) (fun β a w hst=>?_) hk;have h1:=hst.ev x;rw[hx]at h1;simp only[AV.ok,D.ok]at h1;obtain⟨vs,h2,h3⟩:=h1;simp only[D.hM]at h3;have h4:vs=#[]:=cC (by simpa using h3);subst h4;refine⟨.iface t (.agg #[]),?_,wh rfl⟩;simp only[execOp,hop,Instr.makeInterface,aV,bf hu,aJ,h2];cases d<;>first|rfl|exact absurd rfl (hd _)
end
section
variable{P:Program}{C:Ctx}{o:Oper}{env:List AV}{s:gL}{k:List AV->gL->Prop}
theorem GN{f:Nat}(h:enters P f=true)(vs:Array Value)(w:World):(callFunc f vs).run P w=.ok (.enter f vs) w:=by
 unfold enters at h;split at h
 ·rename_i fn hf;simp only[bF,fH]at h;obtain⟨h1,h2⟩:=h;have h3:fn.body.isNone=false:=by cases hb:fn.body<;>simp_all
  simp only[callFunc,aV,cW,aJ,hf];rw[az (by rw[h1];simp),az (by rw[h3];simp)];rfl
 ·cases h
theorem IB{C:Ctx}{n:Nat}{P:Program}{f:FuncId}{args:Array Value}{w:World}{R:Ending->World->Prop}:CallsIn C.uX n P f args w R<->Calls P f args w R:=
 callsIn_wide (n:=n)
theorem OP{c:Call}(hop:o.op=.call c){g:Operand}(hc:c.callee=.value g){f:Nat}{first cap:List AV}(hg:ev env g=.fn f first cap)(he:enters P f=true)
 (hk:Ce P C.k f (first++c.args.toList.map (ev env)++cap) env s fun x env s=>k (iq o.dst env x) s):nB P C o env s k:=by
 intro hnd Q β a w hst;have hgv:=hst.ev g;rw[hg]at hgv;simp only[AV.ok]at hgv;obtain⟨fs,cs,h1,h2,h3⟩:=hgv;have hargs:AV.hM β (C.gP β s) w (first++c.args.toList.map (ev env)++cap) (fs++c.args.map a.eval++cs).toList:=by
  simp only[Array.toList_append,ei];exact oH (oH h2 (Fq hst c.args.toList)) h3
 have hrun:(execOp a.eval o).run P w=.ok (.enter f (fs++c.args.map a.eval++cs)) w:=by
  simp only[execOp,hop,resolve,hc,h1,Deferred.ofValue,aV,bl,aJ,invoke];exact GN he _ _
 refine⟨fun _ _=>trivial,?_⟩;rw[Oper.semAt_eq _ _ _ hnd,hrun,Oper.uponIn_enter];refine⟨fun h=>by simp[Ctx.uX]at h,IB.2 ((hk C β a w _ rfl hst hargs).mono ?_)⟩;rintro e w' ⟨v,x,β',env',s',rfl,hst',hx,hk'⟩;exact⟨β',_,s',hst'.put hx o.dst,hk'⟩
theorem JF{m:tB}(hm:m_ P o=some m)(hk:qo P C.k m env s fun x env s=>k (iq o.dst env x) s):nB P C o env s k:=by
 unfold m_ at hm;split at hm
 ·rename_i x hop;cases hm;exact Yw (.inl hop) hk
 ·rename_i x hop;cases hm;exact Yw (.inr hop) hk
 ·rename_i c x y hop;cases hm;simp only[qo]at hk;split at hk
  ·rename_i t ht;exact U_ hop ht hk
  ·exact hk.elim
 ·rename_i t hop;simp only[aC,aF]at hm;obtain⟨d,hd,z,hz,rfl⟩:=hm;exact Ku hop hz hk
 ·rename_i t x hop;simp only[aF]at hm;obtain⟨d,hd,rfl⟩:=hm;simp only[qo]at hk;split at hk
  ·rename_i cs hc;exact Yq hop hc hk
  ·exact hk.elim
 ·rename_i t ps hop;split at hm
  ·rename_i fs hu;simp only[aC]at hm;obtain⟨z,hz,hm⟩:=hm;split at hm
   ·rename_i hall;simp only[aF]at hm;obtain⟨qs,hq,rfl⟩:=hm;simp only[qo]at hk;split at hk
    ·rename_i cs hc;exact Rq hop hu hz (fun f hf=>by simpa using cH.1 hall f hf) hq hc hk
    ·exact hk.elim
   ·cases hm
  ·rename_i n e hu;split at hm
   ·rename_i hps;simp only[aC,aF]at hm;obtain⟨q,hq,z,hz,rfl⟩:=hm;simp only[qo,pz]at hk;exact OO hop hu hz (by simpa using hps) hq hk
   ·cases hm
  ·cases hm
 ·rename_i t n ps hop;simp only[aC]at hm;obtain⟨d,hd,e,he,sz,hsz,z,hz,hm⟩:=hm;split at hm
  ·rename_i hcond;simp only[aF]at hm;obtain⟨xs,hxs,rfl⟩:=hm;simp only[qo]at hk;split at hk
   ·rename_i ds hds;exact Yr hop (nX he) hsz hz hcond.1 hcond.2 hxs hds hk.1 hk.2
   ·exact hk.elim
  ·cases hm
 ·rename_i t p hop;simp only[aC,aF]at hm;obtain⟨n,hn,ag,hg,rfl⟩:=hm;exact U7 hop hn hg hk
 ·rename_i t p x hop;simp only[aF]at hm;obtain⟨n,hn,rfl⟩:=hm;exact Ru hop hn hk
 ·rename_i x hop;cases hm;simp only[qo]at hk;split at hk
  ·rename_i id off hx;exact DV hop hx (.inl ⟨id,off,rfl⟩) hk
  ·rename_i cs hx;exact DV hop hx (.inr (.inl ⟨cs,rfl⟩)) hk
  ·rename_i cs hx;exact DV hop hx (.inr (.inr (.inr (.inr ⟨cs,rfl⟩)))) hk
  ·rename_i f a b hx;exact DV hop hx (.inr (.inr (.inl ⟨f,a,b,rfl⟩))) hk
  ·rename_i id m off hx;exact DV hop hx (.inr (.inr (.inr (.inl ⟨id,m,off,rfl⟩)))) hk
  ·exact hk.elim
 ·rename_i op t x y t' hop;split at hm
  ·cases hm;exact TM hop hk
  ·cases hm;exact TM hop hk
  ·rename_i hu;split at hm
   ·cases hm;simp only[qo]at hk;split at hk
    ·rename_i p q hx hy;exact ON hop hu (.inl ⟨rfl,rfl⟩) hx hy hk
    ·exact hk.elim
   ·cases hm;simp only[qo]at hk;split at hk
    ·rename_i p q hx hy;exact ON hop hu (.inr ⟨rfl,rfl⟩) hx hy hk
    ·exact hk.elim
   ·cases hm
  ·rename_i e hu;split at hm
   ·rename_i hy;split at hm
    ·cases hm;simp only[qo]at hk;split at hk
     ·rename_i b hx;exact Kv hop hu hy (.inl ⟨rfl,rfl⟩) hx hk
     ·split at hk
      ·rename_i e' xs hx;exact Hy hop hu hy (.inl ⟨rfl,rfl⟩) hx hk.1 hk.2
      ·exact hk.elim
    ·cases hm;simp only[qo]at hk;split at hk
     ·rename_i b hx;exact Kv hop hu hy (.inr ⟨rfl,rfl⟩) hx hk
     ·split at hk
      ·rename_i e' xs hx;exact Hy hop hu hy (.inr ⟨rfl,rfl⟩) hx hk.1 hk.2
      ·exact hk.elim
    ·cases hm
   ·cases hm
  ·cases hm
 ·rename_i op t x hop;cases hm;simp only[qo]at hk;split at hk
  ·rename_i b hx;exact Yy hop hx hk
  ·rename_i j n hx;exact Yx hop hx hk
  ·exact hk.elim
 ·rename_i a b x hop;split at hm
  ·rename_i j j' ha hb;cases hm;simp only[qo]at hk;split at hk
   ·rename_i j0 n hx;exact U6 hop ⟨j,ha⟩ hb hx hk
   ·exact hk.elim
  ·cases hm
 ·rename_i f first cap hop
  cases hm;exact U8 hop hk
 ·rename_i t l c hop;simp only[aC]at hm;obtain⟨d,hd,e,he,sz,hsz,by',hby,z,hz,hm⟩:=hm;split at hm
  ·rename_i hsz0;split at hm
   ·rename_i hz0;cases hm;simp only[qo]at hk;split at hk
    ·rename_i l' c' hl hc;exact OS hop (nX he) hsz hby hz hsz0 (tok:=true) (.inl ⟨rfl,hz0⟩) hl hc hk.1 hk.2.1 hk.2.2.1 hk.2.2.2.1 (by simpa using hk.2.2.2.2)
    ·exact hk.elim
   ·split at hm
    ·rename_i hsame;cases hm;simp only[qo]at hk;split at hk
     ·rename_i l' c' hl hc;exact OS hop (nX he) hsz hby hz hsz0 (tok:=false) (.inr ⟨rfl,hsame⟩) hl hc hk.1 hk.2.1 hk.2.2.1 hk.2.2.2.1 (by simpa using hk.2.2.2.2)
     ·exact hk.elim
    ·cases hm
  ·cases hm
 ·rename_i t x lo hi mx hop;split at hm
  ·rename_i e hu;simp only[aF]at hm;obtain⟨sz,hsz,rfl⟩:=hm;simp only[qo]at hk;split at hk
   ·rename_i e' xs hxs;cases mx with
    |none=>exact Yz hop hu hsz hxs hk.1 hk.2
    |some m=>
     obtain⟨rfl,hh,h,rfl,h1,h2,h3,h4,h5,h6⟩:=hk;exact Va hop hu hsz hxs h1 h2 h4 h5 h6
   ·exact hk.elim
  ·rename_i n e hu;split at hm
   case isFalse=>cases hm
   rename_i hn62;simp only[aF]at hm;obtain⟨sz,hsz,rfl⟩:=hm;simp only[qo]at hk;split at hk
   ·rename_i id off hx;exact OT hn62 hop hu hsz hx (h:=n) (by simp[Fg]) gB gB (by simpa using hk)
   ·rename_i id off h hx;split at hk
    ·rename_i h' hh;exact OT hn62 hop hu hsz hx (h:=h') (by simpa[Fg]using hh) hk.1 hk.2.1 hk.2.2
    ·exact hk.elim
   ·exact hk.elim
  ·cases hm
 ·rename_i t p f hop;split at hm
  ·rename_i fs hu;simp only[aC]at hm;obtain⟨fd,hf,n,hn,hm⟩:=hm;split at hm
   ·cases hm
   ·rename_i h0;cases hm;simp only[qo]at hk;split at hk
    ·rename_i id off hx;exact Kw hop hu hf hn h0 (.inl ⟨id,off,hx,rfl⟩) hk
    ·rename_i cs hx;exact Kw hop hu hf hn h0 (.inr (.inl ⟨cs,hx,rfl⟩)) hk
    ·rename_i cs hx;exact Kw hop hu hf hn h0 (.inr (.inr (.inr ⟨cs,hx,rfl⟩))) hk
    ·rename_i id m off hx;exact Kw hop hu hf hn h0 (.inr (.inr (.inl ⟨id,m,off,hx,rfl⟩))) hk
    ·exact hk.elim
  ·cases hm
 ·rename_i t x i hop;split at hm
  ·rename_i e hu;simp only[aF]at hm;obtain⟨sz,hsz,rfl⟩:=hm;exact Yt hop hu hsz hk
  ·rename_i n e hu;simp only[aF]at hm;obtain⟨sz,hsz,rfl⟩:=hm;simp only[qo]at hk;split at hk
   ·rename_i j id off hj hx;exact OQ hop hu hsz hj hk.1 hk.2.1 (.inl ⟨id,off,hx,rfl⟩) hk.2.2
   ·rename_i j cs hj hx;exact OQ hop hu hsz hj hk.1 hk.2.1 (.inr ⟨cs,hx,rfl⟩) hk.2.2
   ·exact hk.elim
  ·cases hm
 ·rename_i x i hop;cases hm;simp only[qo]at hk;split at hk
  ·rename_i cs hx;exact Ys hop hx hk.1 hk.2
  ·exact hk.elim
 ·rename_i c hop;split at hm
  ·rename_i f hc;split at hm
   ·rename_i he;cases hm;simp only[qo]at hk;exact OP hop hc (f:=f) (first:=[]) (cap:=[]) (by simp[ev]) he (by simpa using hk)
   ·cases hm
  ·rename_i g hc;cases hm;simp only[qo]at hk;split at hk
   ·rename_i f first cap hg;exact OP hop hc hg hk.1 hk.2
   ·exact hk.elim
  ·rename_i hc;split at hm
   ·rename_i e x ht ha;cases hm;simp only[aC]at ht;obtain⟨t,ht,hu⟩:=ht;have ha':c.args=#[x]:=by apply cC;simpa using ha
    simp only[qo]at hk;split at hk
    ·rename_i e' id off n hx;refine OR hop hc ha' ht hu (n:=n) (fun β w v hv=>?_) hk;rw[hx]at hv;simp only[AV.ok]at hv;obtain⟨b,cap,_,_,hv⟩:=hv;exact⟨_,cap,hv⟩
    ·rename_i e' id n hx;refine OR hop hc ha' ht hu (n:=n) (fun β w v hv=>?_) hk;rw[hx]at hv;simp only[AV.ok]at hv;obtain⟨u,m,_,_,_,⟨_,hv,rfl⟩|⟨b,cap,hv,_⟩⟩:=hv
     ·exact⟨_,0,hv⟩
     ·exact⟨_,cap,hv⟩
    ·split at hk
     ·rename_i e' xs hxs;refine OR hop hc ha' ht hu (n:=xs.length) (fun β w v hv=>?_) hk;obtain⟨a,cap,hv,_⟩:=zn hv hxs;exact⟨a,cap,hv⟩
     ·exact hk.elim
   ·cases hm
  ·rename_i hc;split at hm
   ·rename_i x y t u ha hat hau;simp only[aC]at hm;obtain⟨d,hd,e,he,e2,he2,sz,hsz,by',hby,z,hz,hm⟩:=hm;split at hm
    ·rename_i hcond;cases hm;have ha':c.args=#[x,y]:=by apply cC;simpa using ha
     exact TK hop hc ha' hat hau (nX he) (nX he2) hsz hby hz hcond.1 hcond.2 hk
    ·cases hm
   ·cases hm
  ·rename_i hc;split at hm
   ·rename_i x y ha;cases hm;have ha':c.args=#[x,y]:=by apply cC;simpa using ha
    simp only[qo]at hk;split at hk
    ·rename_i j n j' n' hx hy;obtain⟨rfl,hk⟩:=hk;exact Yu hop hc ha' hx hy hk
    ·exact hk.elim
   ·cases hm
  ·rename_i hc;split at hm
   ·rename_i x y ha;cases hm;have ha':c.args=#[x,y]:=by apply cC;simpa using ha
    simp only[qo]at hk;split at hk
    ·rename_i j n j' n' hx hy;obtain⟨rfl,hk⟩:=hk;exact Yv hop hc ha' hx hy hk
    ·exact hk.elim
   ·cases hm
  ·cases hm
 ·cases hm;exact(show False from hk).elim
 ·rename_i t x hop;split at hm
  ·cases hm
  ·rename_i d hnd hu;cases hm;exact U9 hop hu (fun ms e=>hnd ms e) hk.1 hk.2
  ·cases hm
 ·cases hm
theorem Og{x y:Operand}{e:Nat}(hm:m_ P o=some (.slc x e none (some y) none)):∃t e0,o.op=.slice t x none (some y) none/\P.underlying t=some (.slice e0)/\kH P e0=some e:=by
 unfold m_ at hm;split at hm
 case h_16 t' x' lo hi mx hop=>
  split at hm
  ·rename_i e0 hu;simp only[aF,tB.slc.injEq]at hm;obtain⟨sz,hsz,rfl,rfl,rfl,rfl,rfl⟩:=hm;exact⟨_,e0,hop,hu,hsz⟩
  ·exfalso;split at hm
   ·simp only[aF]at hm;obtain⟨_,_,hm⟩:=hm;cases hm
   ·cases hm
  ·cases hm
 all_goals exfalso
 all_goals repeat(first
  |(cases hm;done)
  |(simp only[aC,aF]at hm)
  |(obtain⟨_,_,hm⟩:=hm)
  |split at hm)
theorem Ho{id t e:Nat}{xs:List Operand}(hm:m_ P o=some (.lQ id t e xs)):∃t' n ps,o.op=.buildSlice t' n ps:=by
 unfold m_ at hm;split at hm
 case h_7 t' n ps hop=>exact⟨_,_,_,hop⟩
 all_goals exfalso
 all_goals repeat(first
  |(cases hm;done)
  |(simp only[aC,aF]at hm)
  |(obtain⟨_,_,hm⟩:=hm)
  |split at hm)
theorem Oa{id t:Nat}{x:Operand}(hm:m_ P o=some (.box id t x)):o.op=.box t x:=by
 unfold m_ at hm;split at hm
 case h_5 t' x' hop=>
  simp only[aF]at hm;obtain⟨d,hd,hm⟩:=hm;cases hm;exact hop
 all_goals exfalso
 all_goals repeat(first
  |(cases hm;done)
  |(simp only[aC,aF]at hm)
  |(obtain⟨_,_,hm⟩:=hm)
  |split at hm)
theorem I9{id t:Nat}{z:List D}(hm:m_ P o=some (.alloc id t z)):o.op=.alloc t/\tw P t=some z:=by
 unfold m_ at hm;split at hm
 case h_4 t' hop=>
  simp only[aC,aF]at hm;obtain⟨d,hd,z',hz,hm⟩:=hm;cases hm;exact⟨hop,hz⟩
 all_goals exfalso
 all_goals repeat(first
  |(cases hm;done)
  |(simp only[aC,aF]at hm)
  |(obtain⟨_,_,hm⟩:=hm)
  |split at hm)
theorem EY{id t e b:Nat}{z:List D}{tok:Bool}{l c:Operand}(hm:m_ P o=some (.za id t e b z tok l c)):∃t',o.op=.makeSlice t' l c:=by
 unfold m_ at hm;split at hm
 case h_15 t' l' c' hop=>
  simp only[aC]at hm;obtain⟨d,hd,e',he,sz,hsz,by',hby,z',hz,hm⟩:=hm;split at hm
  ·split at hm
   ·cases hm;exact⟨_,hop⟩
   ·split at hm
    ·cases hm;exact⟨_,hop⟩
    ·cases hm
  ·cases hm
 all_goals exfalso
 all_goals repeat(first
  |(cases hm;done)
  |(simp only[aC,aF]at hm)
  |(obtain⟨_,_,hm⟩:=hm)
  |split at hm)
theorem N_{id t e b:Nat}{x y:Operand}(hm:m_ P o=some (.app id t e b x y)):∃c,o.op=.call c/\c.callee=.builtin .append:=by
 unfold m_ at hm;split at hm
 case h_20 c hop=>
  refine⟨c,hop,?_⟩;split at hm
  case h_4 hc=>exact hc
  all_goals exfalso
  all_goals repeat(first
   |(cases hm;done)
   |(simp only[aC,aF]at hm)
   |(obtain⟨_,_,hm⟩:=hm)
   |split at hm)
 all_goals exfalso
 all_goals repeat(first
  |(cases hm;done)
  |(simp only[aC,aF]at hm)
  |(obtain⟨_,_,hm⟩:=hm)
  |split at hm)
theorem Mc{m:tB}(hm:m_ P o=some m.erase)(hk:qo P C.k m env s fun x env s=>k (iq o.dst env x) s):nB P C o env s k:=by
 cases m with
 |Fh id d t x=>
  simp only[tB.erase]at hm;have hop:=Oa hm;simp only[qo]at hk;split at hk
  ·rename_i cs hc;exact U3 hop hc hk
  ·exact hk.elim
 |wU id d t z=>
  simp only[tB.erase]at hm;obtain⟨hop,hz⟩:=I9 hm;simp only[qo]at hk;exact Ku hop hz hk
 |Bc id t e b z tok l c=>
  simp only[tB.erase]at hm;obtain⟨t',hop⟩:=EY hm;unfold m_ at hm;rw[hop]at hm;simp only[aC]at hm;obtain⟨d,hd,e',he,sz,hsz,by',hby,z',hz,hm⟩:=hm;simp only[qo]at hk;split at hk
  case h_2=>exact hk.elim
  rename_i l' c' hl hc;obtain⟨rfl,he0,h0,h1,h2,h3,h4,h5,hk⟩:=hk;split at hm
  ·split at hm
   ·cases hm
   ·split at hm
    ·rename_i hsame;cases hm;exact Rs hop (nX he) hsz hby hz hsame hl hc h0 h1 h2 h3 hd he0 h4 h5 hk
    ·cases hm
  ·cases hm
 |Ae id t e b z tok l c=>
  simp only[tB.erase]at hm;obtain⟨t',hop⟩:=EY hm;unfold m_ at hm;rw[hop]at hm;simp only[aC]at hm;obtain⟨d,hd,e',he,sz,hsz,by',hby,z',hz,hm⟩:=hm;simp only[qo]at hk;split at hk
  case h_2=>exact hk.elim
  rename_i l' c' zd hl hc;obtain⟨rfl,rfl,h0,h1,h2,h3,hk⟩:=hk;split at hm
  ·split at hm
   ·cases hm
   ·split at hm
    ·rename_i hsame;cases hm;exact Rr hop (nX he) hsz hby hz hsame hl hc h0 h1 h2 h3 hk
    ·cases hm
  ·cases hm
 |zX id t e xs=>
  simp only[tB.erase]at hm;obtain⟨t',n,ps,hop⟩:=Ho hm;unfold m_ at hm;rw[hop]at hm;simp only[aC]at hm;obtain⟨d,hd,e',he,sz,hsz,z,hz,hm⟩:=hm;split at hm
  ·rename_i hcond;simp only[aF,tB.lQ.injEq]at hm;obtain⟨ys,hxs,rfl,rfl,rfl,rfl⟩:=hm;simp only[qo]at hk;split at hk
   ·rename_i ds hds;exact U4 hop (nX he) hsz hz hcond.1 hcond.2 hxs hds hk.1 hk.2
   ·exact hk.elim
  ·cases hm
 |Ek id t e xs=>
  simp only[tB.erase]at hm;obtain⟨t',n,ps,hop⟩:=Ho hm;unfold m_ at hm;rw[hop]at hm;simp only[aC]at hm;obtain⟨d,hd,e',he,sz,hsz,z,hz,hm⟩:=hm;split at hm
  ·rename_i hcond;simp only[aF,tB.lQ.injEq]at hm;obtain⟨ys,hxs,rfl,rfl,rfl,rfl⟩:=hm;simp only[qo,MM]at hk;split at hk
   ·rename_i ds cs hds hcs;exact U5 hop (nX he) hsz hz hcond.1 hcond.2 hxs hds hk.1 hcs hk.2.1 hk.2.2
   ·exact hk.elim
  ·cases hm
 |CD id t e b x y=>
  simp only[tB.erase]at hm;obtain⟨c,hop,hc⟩:=N_ hm;unfold m_ at hm;rw[hop]at hm;simp only[hc]at hm;split at hm
  ·rename_i x y t u ha hat hau;simp only[aC]at hm;obtain⟨d,hd,e,he,e2,he2,sz,hsz,by',hby,z,hz,hm⟩:=hm;split at hm
   ·rename_i hcond;cases hm;have ha':c.args=#[x,y]:=by apply cC;simpa using ha
    exact U2 hop hc ha' hat hau (nX he) (nX he2) hsz hby hz hcond.1 hcond.2 hk
   ·cases hm
  ·cases hm
 |HG x e y=>
  simp only[tB.erase]at hm;obtain⟨t,e0,hop,hu,hn⟩:=Og hm;simp only[qo]at hk;split at hk
  ·rename_i e' j n h hx hy;exact Vb hop hu hn hx hy hk
  ·exact hk.elim
 |_=>exact JF hm hk
end
end kI
