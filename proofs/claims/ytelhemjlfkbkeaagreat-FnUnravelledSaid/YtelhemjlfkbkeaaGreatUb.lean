/- A part of the proof about FnUnravelled (LaAbs). -/
import Derived.Test.YtelhemjlfkbkeaaGreatUa
import Derived.Orders
import Derived.Laws.Cells
import Derived.Laws.World
import Derived.Laws.AppendOwn
import Derived.Below
import Derived.ControlIn
import Derived.CallsIn
import Derived.RangeFuncIn
import Derived.OrdersIn
import Derived.RangeFuncRecord
import Derived.RangeFuncLeaves
import Derived.RangeFuncOwn
import Derived.Maps.OwnSet
set_option linter.all false
namespace oe
open Go
section
variable{P:Program}{C:Ctx}{o:Oper}{env:List AV}{s:gQ}{k:List AV->gQ->Prop}
theorem Df{β:gZ}{a:Act}{w:World}(hst:St C β env s a w){t u ty e e2 sz by':Nat}{i:TypeInfo}{z:Value}
 (ht:P.underlying t=some (.slice e)) (hu:P.underlying u=some (.slice e2)) (hi:P.info? e=some i) (hz:i.zero=some z) (hsz:i.size=sz) (hb:i.bytes=by') (hb0:0<by')
 (hz1:z.cells.size=i.size) (hz2:∀v∈z.cells.toList,one v=true)
 {base:Option Addr} {sLen sCap:Nat} {xs:List D} (hxl:xs.length=sLen) {olds:List Value} (hlo:olds.length=sLen*sz) (hlo1:∀v∈olds,one v=true)
 (holds:olds=[]\/∃b' o,base=some ⟨b',o,none⟩/\jW (C.gO β s) w b' o olds)
 (hrowX:∀(O':Own)(w':World)(b' o':Nat),(∀b o v,w.cell? ⟨b,o,none⟩=some v->¬C.gO β s b o->w'.cell? ⟨b,o,none⟩=some v/\¬O' b o)->
  jW O' w' b' o' olds->D.row O' w' b' o' sz xs)
 {ad:Option Addr} {c:Nat} {ys:List D} {news:List Value} (hln:news.length=ys.length*sz) (hln1:∀v∈news,one v=true)
 (hnews:news=[]\/∃b o,ad=some ⟨b,o,none⟩/\jW (C.gO β s) w b o news)
 (hrowY:∀(O':Own)(w':World)(b' o':Nat),(∀b o v,w.cell? ⟨b,o,none⟩=some v->¬C.gO β s b o->w'.cell? ⟨b,o,none⟩=some v/\¬O' b o)->
  jW O' w' b' o' news->D.row O' w' b' o' sz ys)
 (hg:sCap<sLen+ys.length) (hbd:(sLen+ys.length)*by'<=2^47) {id:Nat} (hpl:mG (β id) (.tok (.slice (some ⟨w.heap.size,0,none⟩) (sLen+ys.length) (grownCap w (sLen+ys.length) sCap e)) (sLen+ys.length))):
 ∃v w' β',(Builtin.append_ #[t,u] ty #[.slice base sLen sCap,.slice ad ys.length c]).run P w=.ok v w'/\
  St C β' env (sset s id (.tok e sz (sLen+ys.length))) a w'/\AV.ok β' (C.gO β' (sset s id (.tok e sz (sLen+ys.length)))) w' (.own sz id (xs++ys)) v:=by
 have hneed:sLen+ys.length<=2^47:=bP (cj _ hb0) hbd;have hrun:=qq (P:=P) (w:=w) t u ty e e2 i z ht hu hi hz base sLen sCap olds (by rw[hsz];exact hlo)
  (holds.imp (fun x=>x) fun⟨b',o',h1,h2⟩=>⟨b',o',h1,fun j v hj=>(h2 j v hj).1⟩) ad ys.length c news (by rw[hsz];exact hln)
  (hnews.imp (fun x=>x) fun⟨b',o',h1,h2⟩=>⟨b',o',h1,fun j v hj=>(h2 j v hj).1⟩) hg gu (by rw[hb];exact eI hg (by simpa using hbd))
 have hcap1:=eK w (sLen+ys.length) sCap e;have hcap2:=dB w (sLen+ys.length) sCap e (by unfold Go.maxLen;omega);have hcell:(olds.toArray++news.toArray++Builtin.zeroCells z.cells (grownCap w (sLen+ys.length) sCap e-(sLen+ys.length))).toList=olds++news++(Builtin.zeroCells z.cells (grownCap w (sLen+ys.length) sCap e-(sLen+ys.length))).toList:=by simp
 have hlen:(olds++news).length=(sLen+ys.length)*sz:=by rw[au,hlo,hln,bk]
 have hst':St C β env s a w.drew:=hst.drew;obtain⟨β',h1,h2⟩:=yH hst' (id:=id) (t:=e) (e:=sz) (n:=sLen+ys.length) (cap:=grownCap w (sLen+ys.length) sCap e)
  (c:=olds.toArray++news.toArray++Builtin.zeroCells z.cells (grownCap w (sLen+ys.length) sCap e-(sLen+ys.length))) (xs:=xs++ys) hpl
  (by
   rw[cH,cH,d_,hz1,hsz];simp only[cz,hlo,hln];rw[<-bk,<-bk];congr 1;omega)
  hcap1 (by unfold Go.maxLen at hcap2;omega)
  (fun v hv=>by
   rw[hcell]at hv;simp only[aG]at hv;rcases hv with(hv|hv)|hv
   ·exact hlo1 v hv
   ·exact hln1 v hv
   ·exact pS hz2 _ v hv)
  (by simp[hxl])
  (fun O' w' hm hc=>by
   rw[hcell,uJ _ _ _ hlen]at hc;refine uX (hrowX O' w' _ 0 hm fun j v hj=>?_) (hrowY O' w' _ _ hm fun j v hj=>?_)
   ·have hlt:j<olds.length:=(aN.1 hj).1;exact hc j v (by rw[aZ hlt];exact hj)
   ·have:=hc (olds.length+j) v (by rw[bN gu];simpa using hj);rw[hlo]at this;rw[hxl];simpa[cM]using this)
 exact⟨_,_,β',hrun,h1,h2⟩
theorem Cq{C:Ctx}{β:gZ}{env:List AV}{s:gQ}{a:Act}{w:World}(h:St C β env s a w){t e n cap:Nat}{c:Array Value}{xs:List D}
 (hn:n<=cap) (hcap:cap<2^63) (h1:∀v∈c.toList,one v=true) (hx:xs.length=n)
 (hrow:∀(O':Own)(w':World),(∀b o v,w.cell? ⟨b,o,none⟩=some v->¬C.gO β s b o->w'.cell? ⟨b,o,none⟩=some v/\¬O' b o)->
  jW O' w' w.heap.size 0 (c.toList.take (n*e))->D.row O' w' w.heap.size 0 e xs):
 St C β env s a (w.alloc (.cells c t))/\D.ok (C.gO β s) (w.alloc (.cells c t)) (.sl e none xs) (.slice (some ⟨w.heap.size,0,none⟩) n cap):=by
 have hold:∀b,b<w.heap.size->(w.alloc (.cells c t)).heap[b]?=w.heap[b]?:=fun b hb=>Go.RowKit.Below.heap_alloc w _ b hb
 have hnew:(w.alloc (.cells c t)).heap[w.heap.size]?=some (.cells c t (0,0)):=World.alloc_heap_new w _;have hnf:∀o,¬C.gO β s w.heap.size o:=fun o hf=>by
  rcases hf with hf|hf
  ·have:=(h.inv.low _ _ hf).1;have:=h.inv.size;omega
  ·have:=h.inv.J_ hf;omega
 refine⟨h.grow (by simp) rfl hold,?_⟩;simp only[D.ok];refine⟨some ⟨w.heap.size,0,none⟩,cap,by rw[hx],by rw[hx];exact⟨hn,hcap⟩,trivial,.inr ⟨w.heap.size,0,rfl,hrow _ _ (fun b o v hc hn=>⟨?_,hn⟩) fun j v hj=>?_⟩⟩
 ·rw[<-hc];exact cF (hold b (uZ hc))
 ·have hj':c.toList[j]?=some v:=by
   have hlt:=(aN.1 hj).1;rw[bL]at hj;split at hj
   ·exact hj
   ·cases hj
  refine⟨?_,hnf _,h1 v (bV hj')⟩;simp only[World.cell?,hnew,bR,ah,ay,cy];simpa using hj'
theorem NK{β:gZ}{a:Act}{w:World}(hst:St C β env s a w){t u ty e e2 sz by':Nat}{i:TypeInfo}{z:Value}
 (ht:P.underlying t=some (.slice e)) (hu:P.underlying u=some (.slice e2)) (hi:P.info? e=some i) (hz:i.zero=some z) (hsz:i.size=sz) (hb:i.bytes=by') (hb0:0<by')
 (hz2:∀v∈z.cells.toList,one v=true)
 {base:Option Addr} {sLen sCap:Nat} {xs:List D} (hxl:xs.length=sLen) {olds:List Value} (hlo:olds.length=sLen*sz) (hlo1:∀v∈olds,one v=true)
 (holds:olds=[]\/∃b' o,base=some ⟨b',o,none⟩/\jW (C.gO β s) w b' o olds)
 (hrowX:∀(O':Own)(w':World)(b' o':Nat),(∀b o v,w.cell? ⟨b,o,none⟩=some v->¬C.gO β s b o->w'.cell? ⟨b,o,none⟩=some v/\¬O' b o)->
  jW O' w' b' o' olds->D.row O' w' b' o' sz xs)
 {ad:Option Addr} {c:Nat} {ys:List D} {news:List Value} (hln:news.length=ys.length*sz) (hln1:∀v∈news,one v=true)
 (hnews:news=[]\/∃b o,ad=some ⟨b,o,none⟩/\jW (C.gO β s) w b o news)
 (hrowY:∀(O':Own)(w':World)(b' o':Nat),(∀b o v,w.cell? ⟨b,o,none⟩=some v->¬C.gO β s b o->w'.cell? ⟨b,o,none⟩=some v/\¬O' b o)->
  jW O' w' b' o' news->D.row O' w' b' o' sz ys)
 (hg:sCap<sLen+ys.length) (hbd:(sLen+ys.length)*by'<=2^47):
 ∃v w',(Builtin.append_ #[t,u] ty #[.slice base sLen sCap,.slice ad ys.length c]).run P w=.ok v w'/\St C β env s a w'/\D.ok (C.gO β s) w' (.sl sz none (xs++ys)) v:=by
 have hneed:sLen+ys.length<=2^47:=bP (cj _ hb0) hbd;have hrun:=qq (P:=P) (w:=w) t u ty e e2 i z ht hu hi hz base sLen sCap olds (by rw[hsz];exact hlo)
  (holds.imp (fun x=>x) fun⟨b',o',h1,h2⟩=>⟨b',o',h1,fun j v hj=>(h2 j v hj).1⟩) ad ys.length c news (by rw[hsz];exact hln)
  (hnews.imp (fun x=>x) fun⟨b',o',h1,h2⟩=>⟨b',o',h1,fun j v hj=>(h2 j v hj).1⟩) hg gu (by rw[hb];exact eI hg (by simpa using hbd))
 have hcap1:=eK w (sLen+ys.length) sCap e;have hcap2:=dB w (sLen+ys.length) sCap e (by unfold Go.maxLen;omega);have hcell:(olds.toArray++news.toArray++Builtin.zeroCells z.cells (grownCap w (sLen+ys.length) sCap e-(sLen+ys.length))).toList=olds++news++(Builtin.zeroCells z.cells (grownCap w (sLen+ys.length) sCap e-(sLen+ys.length))).toList:=by simp
 have hlen:(olds++news).length=(sLen+ys.length)*sz:=by rw[au,hlo,hln,bk]
 have hst':St C β env s a w.drew:=hst.drew;obtain⟨h1,h2⟩:=Cq hst' (t:=e) (e:=sz) (n:=sLen+ys.length) (cap:=grownCap w (sLen+ys.length) sCap e)
  (c:=olds.toArray++news.toArray++Builtin.zeroCells z.cells (grownCap w (sLen+ys.length) sCap e-(sLen+ys.length))) (xs:=xs++ys)
  hcap1 (by unfold Go.maxLen at hcap2;omega)
  (fun v hv=>by
   rw[hcell]at hv;simp only[aG]at hv;rcases hv with(hv|hv)|hv
   ·exact hlo1 v hv
   ·exact hln1 v hv
   ·exact pS hz2 _ v hv)
  (by simp[hxl])
  (fun O' w' hm hc=>by
   rw[hcell,uJ _ _ _ hlen]at hc;refine uX (hrowX O' w' _ 0 hm fun j v hj=>?_) (hrowY O' w' _ _ hm fun j v hj=>?_)
   ·have hlt:j<olds.length:=(aN.1 hj).1;exact hc j v (by rw[aZ hlt];exact hj)
   ·have:=hc (olds.length+j) v (by rw[bN gu];simpa using hj);rw[hlo]at this;rw[hxl];simpa[cM]using this)
 exact⟨_,_,hrun,h1,h2⟩
theorem yT{w:World}(t u ty e e2:TypeId)(i:TypeInfo)(ht:P.underlying t=some (.slice e))(hu:P.underlying u=some (.slice e2))(hi:P.info? e=some i)
 (base ad:Option Addr) (n c:Nat):(Builtin.append_ #[t,u] ty #[.slice base n n,.slice ad 0 c]).run P w=.ok (.slice base n n) w:=by
 have hf:=qt (P:=P) (w:=w) (size:=i.size) (n:=0) (len:=0) (cap:=c) (a:=ad) (vs:=[]) (by simp) (.inl rfl);cases base<;>simp[Builtin.append_,aY ht,aY hu,Go.sizeOf,typeInfo,hi,Builtin.lenOf,hf,storeCells]
theorem vS{w:World}(t u ty e e2:TypeId)(i:TypeInfo)(ht:P.underlying t=some (.slice e))(hu:P.underlying u=some (.slice e2))(hi:P.info? e=some i)
 (ad:Option Addr) (c:Nat):(Builtin.append_ #[t,u] ty #[.slice none 0 0,.slice ad 0 c]).run P w=.ok (.slice none 0 0) w:=by
 have hf:=qt (P:=P) (w:=w) (size:=i.size) (n:=0) (len:=0) (cap:=c) (a:=ad) (vs:=[]) (by simp) (.inl rfl);simp[Builtin.append_,aY ht,aY hu,Go.sizeOf,typeInfo,hi,Builtin.lenOf,hf]
end
theorem Fc(off:Nat):∀(vs:List Value)(j:Nat)(cs:Array Value),off+j+vs.length<=cs.size->
 ((vs.zipIdx j).foldl (fun(cs:Array Value)(x:Value×Nat)=>cs.setIfInBounds (off+x.2) x.1) cs).toList=cs.toList.take (off+j)++vs++cs.toList.drop (off+j+vs.length)
 |[],j,cs,h=>by simp
 |v::vs,j,cs,h=>by
  simp only[aK]at h;rw[fy,cE,Fc off vs (j+1) _ (by simp;omega)];have e:=Go.list_seg_step cs.toList (off+j) v vs (by simp;omega);simp only[Array.toList_setIfInBounds,aK]at e⊢;have e1:off+(j+1)=off+j+1:=by omega
  rw[e1];rw[<-e]
theorem BQ{place:Nat->Option fR}{cells:Array Value}{i:Nat}{v:Value}{rest:List (Nat×Value)}{off size:Nat}
 (hp:place i=some (off,size)) (hs:v.cells.size=size) (hl:off+size<=cells.size):
 Instr.fill place cells ((i,v)::rest)=Instr.fill place (cells.toList.take off++v.cells.toList++cells.toList.drop (off+size)).toArray rest:=by
 have h1:¬(v.cells.size≠size||decide (off+v.cells.size>cells.size))=true:=by simp[hs];omega
 have e:v.cells.zipIdx.foldl (fun(cs:Array Value)(x:Value×Nat)=>cs.setIfInBounds (off+x.2) x.1) cells=
  (cells.toList.take off++v.cells.toList++cells.toList.drop (off+size)).toArray:=by
  apply cO;rw[<-Array.foldl_toList,Array.toList_zipIdx,Fc off v.cells.toList 0 cells (by simp[hs];omega)];simp[hs]
 simp only[Instr.fill,hp];rw[aJ h1];rw[<-e]
section
variable{P:Program}{C:Ctx}{o:Oper}{env:List AV}{s:gQ}{k:List AV->gQ->Prop}
theorem mapM_some_length{α β:Type}(f:α->Option β):∀(l:List α){r:List β},l.mapM f=some r->r.length=l.length
 |[],r=>fun h=>by simp at h;subst h;rfl
 |x::xs,r=>fun h=>by
  simp only[dh,dw,ai]at h;obtain⟨y,_,ys,h2,h3⟩:=h;cases h3;simp[mapM_some_length f xs h2]
theorem Du{β:gZ}{a:Act}{w:World}(hst:St C β env s a w){fs:Array Field}:
 ∀(ps:List (Nat×Operand))(qs:List (Nat×Nat×Operand))(cs cs':List AV)(cells:Array Value),
  ps.mapM (partsOf P fs)=some qs->qp env cs qs=some cs'->AV.iK β (C.gO β s) w cs cells.toList->(∀v∈cells.toList,one v=true)->
  ∀(places:Array fR),(∀(i:Nat)(f:Field)(n:Nat),fs[i]?=some f->kZ P f.type=some n->places[i]?=some (f.offset,n))->
  ∃out:Array Value,Instr.fill (places[·]?) cells (ps.map fun p=>(p.1,a.eval p.2))=some out/\AV.iK β (C.gO β s) w cs' out.toList/\∀v∈out.toList,one v=true
 |[],qs,cs,cs',cells=>fun h1 h2 h3 h4 places _=>by
  simp at h1;subst h1;simp only[qp,aM]at h2;subst h2;exact⟨cells,rfl,h3,h4⟩
 |p::ps,qs,cs,cs',cells=>fun h1 h2 h3 h4 places hpl=>by
  simp only[dh,dw,ai]at h1;obtain⟨q,hq,qs',h5,h6⟩:=h1;cases h6;unfold partsOf at hq;cases hf:fs[p.1]? with
  |none=>simp[hf]at hq
  |some f=>
   cases hn:kZ P f.type with
   |none=>simp[hf,hn]at hq
   |some n=>
    simp only[hf,hn,aa,aX,aM]at hq;subst hq;simp only[qp]at h2;split at h2
    ·rename_i xs hxs;split at h2
     ·rename_i hcond;obtain⟨hx1,hx2⟩:=vz (hst.ev p.2) hxs;have hl:=AV.iS h3;have hlx:=AV.iS hx1;have hsz:(a.eval p.2).cells.size=n:=by rw[<-hcond.1,<-hlx];simp
      have hfc:=BQ (place:=(places[·]?)) (rest:=ps.map fun p=>(p.1,a.eval p.2)) (hpl p.1 f n hf hn) hsz (cells:=cells) (by simp at hl;omega);obtain⟨out,h7,h8,h9⟩:=Du hst ps qs' _ cs' (cells.toList.take f.offset++(a.eval p.2).cells.toList++cells.toList.drop (f.offset+n)).toArray h5 h2
       (by exact pR (pR (x_ _ h3) hx1) (Bn _ h3))
       (fun v hv=>by
        simp only[aG]at hv;rcases hv with(hv|hv)|hv
        ·exact h4 v (bg hv)
        ·exact hx2 v hv
        ·exact h4 v (bO hv)) places hpl
      exact⟨out,by rw[aT,hfc];exact h7,h8,h9⟩
     ·cases h2
    ·cases h2
theorem H7{P:Program}{w:World}{f:Field->Sem fR}{g:Field->Nat×Nat}:∀(l:List Field),(∀x∈l,(f x).run P w=.ok (g x) w)->
 (l.mapM f).run P w=.ok (l.map g) w
 |[],_=>by simp
 |x::xs,h=>by
  rw[dh];simp[h x (by simp),H7 xs fun y hy=>h y (by simp[hy])]
theorem SA{t:Nat}{ps:Array (Nat×Operand)}(hop:o.op=.build t ps){fs:Array Field}(hu:P.underlying t=some (.struct fs)){z:List D}(hz:sL P t=some z)
 (hall:∀f∈fs.toList,(kZ P f.type).isSome=true)
 {qs:List (Nat×Nat×Operand)} (hq:ps.toList.mapM (partsOf P fs)=some qs) {cs:List AV} (hc:qp env (z.map .d) qs=some cs)
 (hk:k (iU o.dst env (AV.mk cs)) s):mU P C o env s k:=by
 refine .value fun β a w hst=>?_
 obtain⟨i,u,hi,hzu,hsz,h1,rfl⟩:=nE hz;have hrunz:∀w,(fs.mapM fun(f:Field)=>do pure (f.offset,<-Go.sizeOf f.type):Sem (Array fR)).run P w=.ok (fs.map fun(f:Field)=>(f.offset,(kZ P f.type).getD 0)) w:=by
  intro w;rw[Array.mapM_eq_mapM_toList];have:=H7 (P:=P) (w:=w) (f:=fun(f:Field)=>do pure (f.offset,<-Go.sizeOf f.type)) (g:=fun(f:Field)=>(f.offset,(kZ P f.type).getD 0)) fs.toList (fun f hf=>by
   have:=hall f hf;cases hn:kZ P f.type with
   |none=>rw[hn]at this;cases this
   |some n=>
    obtain⟨i,hi,hin⟩:=kT hn;simp[Go.sizeOf,typeInfo,hi,hin])
  simp only[Sem.run_map,this,aF];congr 1;apply cO;simp
 obtain⟨out,h2,h3,h4⟩:=Du hst ps.toList qs _ cs u.cells hq hc (Hv (BK _ h1)) h1 (fs.map fun(f:Field)=>(f.offset,(kZ P f.type).getD 0)) (fun i f n hf hn=>by
  simp[hf,hn])
 refine⟨.agg out,w,β,env,s,_,?_,hst,Lc h3 h4,hk⟩;have hmap:(ps.map fun p=>(p.1,a.eval p.2)).toList=ps.toList.map fun p=>(p.1,a.eval p.2):=by simp
 simp only[execOp,hop,Instr.build,zeroValue,typeInfo,aR,cQ,aF,hi,hzu,a_,aY hu];rw[hrunz];simp only[aF,hmap,h2];simp
theorem P0{t:Nat}{ps:Array (Nat×Operand)}(hop:o.op=.build t ps){n e:Nat}(hu:P.underlying t=some (.array n e)){z:List D}(hz:sL P t=some z)(hps:ps.toList=[])
 {m:Nat} (hm:kZ P e=some m) (hk:k (iU o.dst env (AV.mk (z.map .d))) s):mU P C o env s k:=by
 refine .value fun β a w hst=>?_
 obtain⟨i,u,hi,hzu,hsz,h1,rfl⟩:=nE hz;obtain⟨j,hj,hjm⟩:=kT hm;refine⟨.agg u.cells,w,β,env,s,_,?_,hst,Lc (Hv (BK _ h1)) h1,hk⟩;have hps':ps=#[]:=cO hps;subst hps';simp[execOp,hop,Instr.build,zeroValue,typeInfo,aR,cQ,aF,hi,hzu,a_,aY hu,Go.sizeOf,hj,Instr.fill]
end
mutual
theorem K0{β:gZ}{O:Own}{w:World}:∀(x:AV)(v:Value)(d:D),x.fin=some d->AV.ok β O w x v->D.ok O w d v
 |.d y,v,d=>fun hd h=>by simp only[AV.fin,aM]at hd;subst hd;simpa[AV.ok]using h
 |.own e id xs,v,d=>fun hd h=>by simp only[AV.fin,aM]at hd;subst hd;simp only[AV.ok]at h;exact h.1
 |.agg cs,v,d=>fun hd h=>by
  simp only[AV.fin,aH]at hd;obtain⟨ds,h1,rfl⟩:=hd;simp only[AV.ok]at h;obtain⟨vs,rfl,h2,h3⟩:=h;simp only[D.ok];exact⟨vs,rfl,Dw cs vs.toList ds h1 h2 h3⟩
 |.iN,v,d=>fun hd=>by simp[AV.fin]at hd
 |.ptr _ _,v,d=>fun hd=>by simp[AV.fin]at hd
 |.tS _ _ _ _,v,d=>fun hd=>by simp[AV.fin]at hd
 |.pv _,v,d=>fun hd=>by simp[AV.fin]at hd
 |.oz _,v,d=>fun hd=>by simp[AV.fin]at hd
 |.fn _ _ _,v,d=>fun hd=>by simp[AV.fin]at hd
 |.mL _ _ _,v,d=>fun hd=>by simp[AV.fin]at hd
 |.mJ _ _ _,v,d=>fun hd=>by simp[AV.fin]at hd
 |.BZ _ _,v,d=>fun hd=>by simp[AV.fin]at hd
 |.nm _ _ _,v,d=>fun hd=>by simp[AV.fin]at hd
 |.dp _,v,d=>fun hd=>by simp[AV.fin]at hd
 |.mp _,v,d=>fun hd=>by simp[AV.fin]at hd
theorem Dw{β:gZ}{O:Own}{w:World}:∀(xs:List AV)(vs:List Value)(ds:List D),AV.nC xs=some ds->(∀u∈vs,one u=true)->AV.iK β O w xs vs->D.iK O w ds vs
 |[],vs,ds=>fun hd _ h=>by simp only[AV.nC,aM]at hd;subst hd;simpa[AV.iK,D.iK]using h
 |x::xs,vs,ds=>fun hd h1 h=>by
  simp only[AV.nC,ai,aH]at hd;obtain⟨y,h2,ys,h3,rfl⟩:=hd;simp only[AV.iK]at h;obtain⟨v,r,rfl,h4,h5⟩:=h;simp only[D.iK];exact⟨v,r,rfl,h1 v (by simp),K0 x v y h2 h4,Dw xs r ys h3 (fun u hu=>h1 u (by simp[hu])) h5⟩
end
theorem Dy{β:gZ}{O:Own}{w:World}{x:AV}{v:Value}{d:D}(h:AV.ok β O w x v)(hd:x.fin=some d):D.ok O w d v:=K0 x v d hd h
theorem zK{O:Own}{w:World}{d:D}{v:Value}(h:D.ok O w d v):D.iK O w (gD d) v.cells.toList:=by
 cases d with
 |agg cs=>simp only[D.ok]at h;obtain⟨vs,rfl,h⟩:=h;exact h
 |any=>
  have h':=h;simp only[D.ok]at h;have:v.cells=#[v]:=by cases v<;>simp_all[Value.cells,one]
  simp only[gD,this,D.iK];exact⟨v,[],rfl,h,h',rfl⟩
 |lit u=>
  have h':=h;simp only[D.ok]at h;obtain⟨rfl,h1⟩:=h;have:v.cells=#[v]:=by cases v<;>simp_all[Value.cells,one]
  simp only[gD,this,D.iK];exact⟨v,[],rfl,h1,h',rfl⟩
 |sl e nl xs=>
  have h':=h;simp only[D.ok]at h;obtain⟨a,cap,rfl,_⟩:=h;simp only[gD,Value.cells,D.iK];exact⟨_,[],rfl,rfl,h',rfl⟩
def qH(O:Own)(w:World)(e:Nat):List D->List Value->Prop
 |[],vs=>vs=[]
 |d::ds,vs=>∃us r,vs=us++r/\us.length=e/\D.iK O w (gD d) us/\qH O w e ds r
theorem qH.length{O:Own}{w:World}{e:Nat}:∀{ds:List D}{vs:List Value},qH O w e ds vs->vs.length=ds.length*e
 |[],vs=>fun h=>by simp only[qH]at h;simp[h]
 |d::ds,vs=>fun h=>by
  simp only[qH]at h;obtain⟨us,r,rfl,h1,_,h3⟩:=h;simp[h1,h3.length,bk];omega
theorem qH.row{O O':Own}{w w':World}{b e:Nat}(hm:∀b o v,w.cell? ⟨b,o,none⟩=some v->¬O b o->w'.cell? ⟨b,o,none⟩=some v/\¬O' b o):
 ∀{ds:List D}{vs:List Value}{o:Nat},qH O w e ds vs->jW O' w' b o vs->D.row O' w' b o e ds
 |[],vs,o=>fun _ _=>by simp[D.row]
 |d::ds,vs,o=>fun h hc=>by
  simp only[qH]at h;obtain⟨us,r,rfl,h1,h2,h3⟩:=h;rw[D.oq];refine⟨⟨us,h1,fun j v hj=>?_,Li (D.kj hm _ _ h2)⟩,h3.row hm fun j v hj=>?_⟩
  ·have hlt:j<us.length:=(aN.1 hj).1;exact hc j v (by rw[aZ hlt];exact hj)
  ·have:=hc (us.length+j) v (by rw[bN gu];simpa using hj);rw[h1]at this;rwa [cM]
theorem qH.flat{O:Own}{w:World}{e:Nat}:∀{ds:List D}{vs:List Value},qH O w e ds vs->(∀x∈ds,(gD x).length=e)->
 D.iK O w (ds.flatMap gD) vs/\(ds.flatMap gD).length=ds.length*e
 |[],vs,h,_=>by simp only[qH]at h;subst h;simp[D.iK]
 |d::ds,vs,h,he=>by
  simp only[qH]at h;obtain⟨us,r,rfl,h1,h2,h3⟩:=h;obtain⟨h4,h5⟩:=h3.flat fun x hx=>he x (by simp[hx])
  rw[cn];exact⟨tO h2 h4,by rw[au,h5,he d (by simp),aK,bk];omega⟩
section
variable{P:Program}{C:Ctx}{o:Oper}{env:List AV}{s:gQ}{k:List AV->gQ->Prop}
theorem A7{O:Own}{w:World}{e:Nat}:∀(ds:List D)(vs:List Value)(j:Nat)(cells:Array Value),(∀v∈vs,v.cells.size=e)->
 (∀(i:Nat)(d:D)(v:Value),ds[i]?=some d->vs[i]?=some v->D.ok O w d v)->ds.length=vs.length->cells.size=(j+vs.length)*e->
 ∃out:Array Value,Instr.fill (fun i=>some (i*e,e)) cells ((vs.zipIdx j).map fun p=>(p.2,p.1))=some out/\
  ∃us,qH O w e ds us/\out.toList=cells.toList.take (j*e)++us
 |[],[],j,cells,_,_,_,h4=>⟨cells,rfl,[],rfl,by simp at h4;simp[<-h4,<-Array.length_toList,cK]⟩
 |[],_::_,_,_,_,_,h3,_=>by simp at h3
 |_::_,[],_,_,_,_,h3,_=>by simp at h3
 |d::ds,v::vs,j,cells,h1,h2,h3,h4=>by
  have hv:=h1 v (by simp);have hfit:j*e+e<=cells.size:=by
   rw[h4,<-Nat.succ_mul];exact bG _ (by simp)
  have hfc:=BQ (place:=fun i=>some (i*e,e)) (i:=j) (rest:=(vs.zipIdx (j+1)).map fun p=>(p.2,p.1)) rfl hv hfit;have hsz:(cells.toList.take (j*e)++v.cells.toList++cells.toList.drop (j*e+e)).length=(j+1+vs.length)*e:=by
   simp[hv];rw[h4]at hfit⊢;simp only[aK]at hfit⊢;have:(j+1+vs.length)*e=(j+(vs.length+1))*e:=by congr 1;omega
   rw[this];omega
  obtain⟨out,h5,us,h6,h7⟩:=A7 ds vs (j+1) (cells.toList.take (j*e)++v.cells.toList++cells.toList.drop (j*e+e)).toArray
   (fun u hu=>h1 u (by simp[hu])) (fun i d u hd hu=>h2 (i+1) d u (by simpa using hd) (by simpa using hu)) (by simpa using h3) (by simpa using hsz)
  refine⟨out,by rw[fy,aT,hfc];exact h5,v.cells.toList++us,?_,?_⟩
  ·simp only[qH];exact⟨_,_,rfl,by simpa using hv,zK (h2 0 d v rfl rfl),h6⟩
  ·rw[h7];have hl:(cells.toList.take (j*e)++v.cells.toList).length=(j+1)*e:=by
    simp[hv,bk];omega
   rw[fG hl];simp
theorem xk:∀{xs:List AV}{ds:List D},AV.nC xs=some ds->ds.length=xs.length/\∀(i:Nat)(x:AV)(d:D),xs[i]?=some x->ds[i]?=some d->x.fin=some d
 |[],ds=>fun h=>by simp only[AV.nC,aM]at h;subst h;simp
 |x::xs,ds=>fun h=>by
  simp only[AV.nC,ai,aH]at h;obtain⟨y,h1,ys,h2,rfl⟩:=h;obtain⟨h3,h4⟩:=xk h2;refine⟨by simp[h3],fun i z d hz hd=>?_⟩;cases i with
  |zero=>simp at hz hd;subst hz;subst hd;exact h1
  |succ i=>exact h4 i z d (by simpa using hz) (by simpa using hd)
theorem BB{z:Array Value}(h:∀v∈z.toList,one v=true)(n:Nat)(hz:n=0\/0<z.size):∀v∈((Array.range n).map fun i=>z[i%z.size]!).toList,one v=true:=by
 intro v hv;simp at hv;obtain⟨i,hi,rfl⟩:=hv;rcases hz with rfl|hz
 ·omega
 ·have hlt:i%z.size<z.size:=Nat.mod_lt _ hz;rw[getElem!_pos z _ hlt];exact h _ (Array.getElem_mem_toList hlt)
theorem X7{d t n:Nat}{ps:Array (Nat×Operand)}(hop:o.op=.buildSlice t n ps){e sz:Nat}(ht:P.underlying t=some (.slice e))(hsz:kZ P e=some sz)
 {z:List D} (hz:sL P e=some z) (hn:n*sz<=2^24) (hsz0:0<sz) {xs:List Operand} (hxs:rW n ps.toList=some xs)
 {ds:List D} (hds:AV.nC (xs.map (ev env))=some ds) (hel:∀x∈ds,(gD x).length=sz)
 (hk:uM C.k d env s fun env s _=>k (iU o.dst env (.own sz d ds)) (sset s d (.tok e sz ds.length))):mU P C o env s k:=by
 refine .value fun β a w hst=>?_
 obtain⟨i,u,hi,hzu,hzs,h1,_⟩:=nE hz;have hisz:i.size=sz:=by obtain⟨i',h1,h2⟩:=kT hsz;rw[hi]at h1;cases h1;exact h2
 have hxs':ps.toList.map (·.1)=List.range n/\ps.toList.map (·.2)=xs:=by
  unfold rW at hxs;split at hxs
  ·cases hxs;exact⟨by assumption,rfl⟩
  ·cases hxs
 have hlen:xs.length=n:=by rw[<-hxs'.2];simp;have:=bW List.length hxs'.1;simpa using this
 obtain⟨hdl,hdv⟩:=xk hds;have hdl':ds.length=n:=by rw[hdl,aS,hlen]
 have hok:∀(i:Nat)(d:D)(v:Value),ds[i]?=some d->(xs.map a.eval)[i]?=some v->D.ok (C.gO β s) w d v:=by
  intro i d v hd hv;rw[bA]at hv;cases hx:xs[i]? with
  |none=>rw[hx]at hv;cases hv
  |some x=>
   rw[hx]at hv;cases hv;exact Dy (hst.ev x) (hdv i (ev env x) d (by rw[bA,hx];rfl) hd)
 have hcs:∀v∈xs.map a.eval,v.cells.size=sz:=by
  intro v hv;obtain⟨i,hi⟩:=cC hv;have hlt:i<ds.length:=by have:=(aN.1 hi).1;simp at this;omega
  have h2:=D.iS (zK (hok i _ v (aA hlt) hi));rw[hel _ (bu hlt)]at h2;simpa using h2
 have hzz:∀v∈((Array.range (n*sz)).map fun i=>u.cells[i%u.cells.size]!).toList,one v=true:=BB h1 _ (.inr gu);obtain⟨out,h2,us,h3,h4⟩:=A7 (O:=C.gO β s) (w:=w) (e:=sz) ds (xs.map a.eval) 0 ((Array.range (n*sz)).map fun i=>u.cells[i%u.cells.size]!) hcs hok (by simp[hdl',hlen]) (by simp[hlen]);simp only[dM,eY,bl]at h4;have hzip:((xs.map a.eval).zipIdx 0).map (fun p=>(p.2,p.1))=(ps.map fun p=>(p.1,a.eval p.2)).toList:=by
  rw[dQ];apply dL;intro j;simp only[bA,eo];have e1:=bW (·[j]?) hxs'.1;have e2:=bW (·[j]?) hxs'.2;simp only[bA]at e1 e2;cases hp:ps.toList[j]? with
  |none=>rw[hp]at e2;simp at e2;simpa using e2
  |some p=>
   rw[hp]at e1 e2;simp at e1 e2;rw[<-e2];have hj:j<n:=by
    rcases cG j n with h|h
    ·exact h
    ·rw[bK (by simpa using h)]at e1;cases e1
   rw[ey hj]at e1;cases e1;simp
 rw[hzip]at h2;obtain⟨β1,env1,s1,f,hst1,hd1,hk1,_,hf⟩:=pQ hk hst;have hno:β1 d=.no:=by have:=hst1.inv.obs d;rw[hd1]at this;exact this
 have hul:=h3.length;have hEone:∀{ds:List D}{us:List Value},qH (C.gO β s) w sz ds us->∀v∈us,one v=true:=by
  intro ds;induction ds with
  |nil=>intro us h v hv;simp only[qH]at h;subst h;cases hv
  |cons x xs ih=>
   intro us h v hv;simp only[qH]at h;obtain⟨p,r,rfl,_,h6,h7⟩:=h;rcases aG.1 hv with hv|hv
   ·obtain⟨i,hi⟩:=cC hv;have hlt:i<(gD x).length:=by rw[<-D.iS h6];exact(aN.1 hi).1
    exact((D.kM.1 h6).2 i _ v (aA hlt) hi).1
   ·exact ih h7 v hv
 obtain⟨β',hst',hok'⟩:=yH hst1 (id:=d) (t:=e) (e:=sz) (n:=ds.length) (cap:=ds.length) (c:=out) (xs:=ds) (by rw[hno];trivial)
  (by rw[<-hul,<-h4];simp) (aO _) (by rw[hdl'];have:n<=n*sz:=cj _ hsz0;omega)
  (by rw[h4];exact hEone h3) rfl
  (fun O' w' hm hc=>by
   rw[h4,<-hul,cK]at hc;exact h3.row (fun b o v q1 q2=>hm b o v q1 fun h=>q2 (hf b o h)) hc)
 refine⟨.slice (some ⟨w.heap.size,0,none⟩) ds.length ds.length,_,β',env1,_,_,?_,hst',hok',hk1⟩;have hbig:¬(n*i.size>2^24):=by rw[hisz];omega
 rw[hdl'];rw[hisz]at hbig;have hrun:(Instr.buildSlice t n (ps.map fun(i,x)=>(i,a.eval x))).run P w=.ok (.slice (some ⟨w.heap.size,0,none⟩) n n) (w.alloc (.cells out e)):=by
  simp only[Instr.buildSlice,aR,aY ht,aF,Go.sizeOf,typeInfo,cQ,hi,a_,hisz];rw[aJ hbig];by_cases h0:n*sz=0
  ·have he:((Array.range (n*sz)).map fun i=>u.cells[i%u.cells.size]!)=#[]:=by rw[h0];simp
   have he':((Array.range (n*sz)).map fun i=>(#[]:Array Value)[i%(#[]:Array Value).size]!)=#[]:=by rw[h0];simp
   rw[he,<-he']at h2;rw[aE h0];simp only[a_,aF,h2,aR,newRow,dR,cX]
  ·rw[aJ h0];simp only[zeroValue,typeInfo,aR,cQ,hi,hzu,a_,aF,h2,newRow,dR,cX]
 simp only[execOp,hop,aR,hrun,aF,a_]
theorem U8{d t n:Nat}{ps:Array (Nat×Operand)}(hop:o.op=.buildSlice t n ps){e sz:Nat}(ht:P.underlying t=some (.slice e))(hsz:kZ P e=some sz)
 {z:List D} (hz:sL P e=some z) (hn:n*sz<=2^24) (hsz0:0<sz) {xs:List Operand} (hxs:rW n ps.toList=some xs)
 {ds:List D} (hds:AV.nC (xs.map (ev env))=some ds) (hel:∀x∈ds,(gD x).length=sz)
 (hk:uM C.k d env s fun env s _=>k (iU o.dst env (.mL sz d ds.length)) (sset s d (.lO e sz ds.length (ds.flatMap gD)))):mU P C o env s k:=by
 refine .value fun β a w hst=>?_
 obtain⟨i,u,hi,hzu,hzs,h1,_⟩:=nE hz;have hisz:i.size=sz:=by obtain⟨i',h1,h2⟩:=kT hsz;rw[hi]at h1;cases h1;exact h2
 have hxs':ps.toList.map (·.1)=List.range n/\ps.toList.map (·.2)=xs:=by
  unfold rW at hxs;split at hxs
  ·cases hxs;exact⟨by assumption,rfl⟩
  ·cases hxs
 have hlen:xs.length=n:=by rw[<-hxs'.2];simp;have:=bW List.length hxs'.1;simpa using this
 obtain⟨hdl,hdv⟩:=xk hds;have hdl':ds.length=n:=by rw[hdl,aS,hlen]
 have hok:∀(i:Nat)(d:D)(v:Value),ds[i]?=some d->(xs.map a.eval)[i]?=some v->D.ok (C.gO β s) w d v:=by
  intro i d v hd hv;rw[bA]at hv;cases hx:xs[i]? with
  |none=>rw[hx]at hv;cases hv
  |some x=>
   rw[hx]at hv;cases hv;exact Dy (hst.ev x) (hdv i (ev env x) d (by rw[bA,hx];rfl) hd)
 have hcs:∀v∈xs.map a.eval,v.cells.size=sz:=by
  intro v hv;obtain⟨i,hi⟩:=cC hv;have hlt:i<ds.length:=by have:=(aN.1 hi).1;simp at this;omega
  have h2:=D.iS (zK (hok i _ v (aA hlt) hi));rw[hel _ (bu hlt)]at h2;simpa using h2
 have hzz:∀v∈((Array.range (n*sz)).map fun i=>u.cells[i%u.cells.size]!).toList,one v=true:=BB h1 _ (.inr gu);obtain⟨out,h2,us,h3,h4⟩:=A7 (O:=C.gO β s) (w:=w) (e:=sz) ds (xs.map a.eval) 0 ((Array.range (n*sz)).map fun i=>u.cells[i%u.cells.size]!) hcs hok (by simp[hdl',hlen]) (by simp[hlen]);simp only[dM,eY,bl]at h4;have hzip:((xs.map a.eval).zipIdx 0).map (fun p=>(p.2,p.1))=(ps.map fun p=>(p.1,a.eval p.2)).toList:=by
  rw[dQ];apply dL;intro j;simp only[bA,eo];have e1:=bW (·[j]?) hxs'.1;have e2:=bW (·[j]?) hxs'.2;simp only[bA]at e1 e2;cases hp:ps.toList[j]? with
  |none=>rw[hp]at e2;simp at e2;simpa using e2
  |some p=>
   rw[hp]at e1 e2;simp at e1 e2;rw[<-e2];have hj:j<n:=by
    rcases cG j n with h|h
    ·exact h
    ·rw[bK (by simpa using h)]at e1;cases e1
   rw[ey hj]at e1;cases e1;simp
 rw[hzip]at h2;obtain⟨β1,env1,s1,f,hst1,hd1,hk1,_,hf⟩:=pQ hk hst;have hno:β1 d=.no:=by have:=hst1.inv.obs d;rw[hd1]at this;exact this
 have hul:=h3.length;have hEone:∀{ds:List D}{us:List Value},qH (C.gO β s) w sz ds us->∀v∈us,one v=true:=by
  intro ds;induction ds with
  |nil=>intro us h v hv;simp only[qH]at h;subst h;cases hv
  |cons x xs ih=>
   intro us h v hv;simp only[qH]at h;obtain⟨p,r,rfl,_,h6,h7⟩:=h;rcases aG.1 hv with hv|hv
   ·obtain⟨i,hi⟩:=cC hv;have hlt:i<(gD x).length:=by rw[<-D.iS h6];exact(aN.1 hi).1
    exact((D.kM.1 h6).2 i _ v (aA hlt) hi).1
   ·exact ih h7 v hv
 obtain⟨hfl,hfe⟩:=h3.flat hel;obtain⟨β',hst',hok'⟩:=DG hst1 (id:=d) (t:=e) (e:=sz) (n:=ds.length) (cap:=ds.length) (c:=out) (cs:=ds.flatMap gD) (pre:=us) (rest:=[]) (by rw[hno];trivial)
  (by rw[<-hul,<-h4];simp) (aO _) (by rw[hdl'];have:n<=n*sz:=cj _ hsz0;omega)
  (by rw[h4];exact hEone h3) hfe (by rw[h4];simp) (D.kj (fun _ _ _ hc hn=>⟨hc,fun h=>hn (hf _ _ h)⟩) _ _ hfl)
 refine⟨.slice (some ⟨w.heap.size,0,none⟩) ds.length ds.length,_,β',env1,_,_,?_,hst',hok',hk1⟩;have hbig:¬(n*i.size>2^24):=by rw[hisz];omega
 rw[hdl'];rw[hisz]at hbig;have hrun:(Instr.buildSlice t n (ps.map fun(i,x)=>(i,a.eval x))).run P w=.ok (.slice (some ⟨w.heap.size,0,none⟩) n n) (w.alloc (.cells out e)):=by
  simp only[Instr.buildSlice,aR,aY ht,aF,Go.sizeOf,typeInfo,cQ,hi,a_,hisz];rw[aJ hbig];by_cases h0:n*sz=0
  ·have he:((Array.range (n*sz)).map fun i=>u.cells[i%u.cells.size]!)=#[]:=by rw[h0];simp
   have he':((Array.range (n*sz)).map fun i=>(#[]:Array Value)[i%(#[]:Array Value).size]!)=#[]:=by rw[h0];simp
   rw[he,<-he']at h2;rw[aE h0];simp only[a_,aF,h2,aR,newRow,dR,cX]
  ·rw[aJ h0];simp only[zeroValue,typeInfo,aR,cQ,hi,hzu,a_,aF,h2,newRow,dR,cX]
 simp only[execOp,hop,aR,hrun,aF,a_]
theorem BR{e:Nat}:∀(vs:List Value)(j:Nat)(cells:Array Value),(∀v∈vs,v.cells.size=e)->cells.size=(j+vs.length)*e->
 ∃out:Array Value,Instr.fill (fun i=>some (i*e,e)) cells ((vs.zipIdx j).map fun p=>(p.2,p.1))=some out/\
  out.toList=cells.toList.take (j*e)++vs.flatMap fun v=>v.cells.toList
 |[],j,cells,_,h4=>⟨cells,rfl,by simp at h4;simp[<-h4,<-Array.length_toList,cK]⟩
 |v::vs,j,cells,h1,h4=>by
  have hv:=h1 v (by simp);have hfit:j*e+e<=cells.size:=by
   rw[h4,<-Nat.succ_mul];exact bG _ (by simp)
  have hfc:=BQ (place:=fun i=>some (i*e,e)) (i:=j) (rest:=(vs.zipIdx (j+1)).map fun p=>(p.2,p.1)) rfl hv hfit;have hsz:(cells.toList.take (j*e)++v.cells.toList++cells.toList.drop (j*e+e)).length=(j+1+vs.length)*e:=by
   simp[hv];rw[h4]at hfit⊢;simp only[aK]at hfit⊢;have:(j+1+vs.length)*e=(j+(vs.length+1))*e:=by congr 1;omega
   rw[this];omega
  obtain⟨out,h5,h7⟩:=BR vs (j+1) (cells.toList.take (j*e)++v.cells.toList++cells.toList.drop (j*e+e)).toArray
   (fun u hu=>h1 u (by simp[hu])) (by simpa using hsz)
  refine⟨out,by rw[fy,aT,hfc];exact h5,?_⟩;rw[h7];have hl:(cells.toList.take (j*e)++v.cells.toList).length=(j+1)*e:=by
   simp[hv,bk];omega
  rw[fG hl];simp
theorem Ge{β:gZ}{O:Own}{w:World}{e:Nat}:∀{xs:List AV}{vs:List Value}{cs:List AV},AV.flat e xs=some cs->AV.iK β O w xs vs->
 AV.iK β O w cs (vs.flatMap fun v=>v.cells.toList)/\(∀v∈vs,v.cells.size=e)/\∀u∈vs.flatMap (fun v=>v.cells.toList),one u=true
 |[],vs,cs,h,hv=>by
  simp only[AV.flat,aM]at h;simp only[AV.iK]at hv;subst h;subst hv;simp[AV.iK]
 |x::xs,vs,cs,h,hv=>by
  simp only[AV.iK]at hv;obtain⟨v,r,rfl,hv,hr⟩:=hv;simp only[AV.flat]at h;split at h
  ·rename_i c r' hc hr';split at h
   ·rename_i he;cases h;obtain⟨h1,h2⟩:=vz hv hc;obtain⟨h3,h4,h5⟩:=Ge hr' hr;rw[cn];refine⟨pR h1 h3,fun u hu=>?_,fun u hu=>?_⟩
    ·rcases bt.1 hu with rfl|hu
     ·rw[<-Array.length_toList,AV.iS h1,he]
     ·exact h4 u hu
    ·rcases aG.1 hu with hu|hu
     ·exact h2 u hu
     ·exact h5 u hu
   ·cases h
  ·cases h
theorem U_{d t n:Nat}{ps:Array (Nat×Operand)}(hop:o.op=.buildSlice t n ps){e sz:Nat}(ht:P.underlying t=some (.slice e))(hsz:kZ P e=some sz)
 {z:List D} (hz:sL P e=some z) (hn:n*sz<=2^24) (hsz0:0<sz) {xs:List Operand} (hxs:rW n ps.toList=some xs)
 {cs:List AV} (hds:AV.flat sz (xs.map (ev env))=some cs)
 (hk:uM C.k d env s fun env s f=>k (iU o.dst env (.tS sz d 0 xs.length)) (sset s d (.obj e (cs.map f)))):mU P C o env s k:=by
 refine .value fun β a w hst=>?_
 obtain⟨i,u,hi,hzu,hzs,h1,_⟩:=nE hz;have hisz:i.size=sz:=by obtain⟨i',h1,h2⟩:=kT hsz;rw[hi]at h1;cases h1;exact h2
 have hxs':ps.toList.map (·.1)=List.range n/\ps.toList.map (·.2)=xs:=by
  unfold rW at hxs;split at hxs
  ·cases hxs;exact⟨by assumption,rfl⟩
  ·cases hxs
 have hlen:xs.length=n:=by rw[<-hxs'.2];simp;have:=bW List.length hxs'.1;simpa using this
 have hall:∀ys:List Operand,AV.iK β (C.gO β s) w (ys.map (ev env)) (ys.map a.eval):=by
  intro ys;induction ys with
  |nil=>simp[AV.iK]
  |cons y ys ih=>simp only[aT,AV.iK];exact⟨_,_,rfl,hst.ev y,ih⟩
 obtain⟨hok,hcs,hone⟩:=Ge hds (hall xs);obtain⟨out,h2,h4⟩:=BR (xs.map a.eval) 0 ((Array.range (n*sz)).map fun i=>u.cells[i%u.cells.size]!) hcs (by simp[hlen]);simp only[dM,eY,bl]at h4;have hzip:((xs.map a.eval).zipIdx 0).map (fun p=>(p.2,p.1))=(ps.map fun p=>(p.1,a.eval p.2)).toList:=by
  rw[dQ];apply dL;intro j;simp only[bA,eo];have e1:=bW (·[j]?) hxs'.1;have e2:=bW (·[j]?) hxs'.2;simp only[bA]at e1 e2;cases hp:ps.toList[j]? with
  |none=>rw[hp]at e2;simp at e2;simpa using e2
  |some p=>
   rw[hp]at e1 e2;simp at e1 e2;rw[<-e2];have hj:j<n:=by
    rcases cG j n with h|h
    ·exact h
    ·rw[bK (by simpa using h)]at e1;cases e1
   rw[ey hj]at e1;cases e1;simp
 rw[hzip]at h2;obtain⟨β1,env1,s1,f,hst1,hd1,hk1,hf,_⟩:=pQ hk hst;rw[<-h4]at hok hone;obtain⟨β2,hst2,m,hp⟩:=hst1.newObj (id:=d) hd1 (c:=out) (t:=e) (cs:=cs.map f) hone (Bo hf hok);simp only[AV.ok]at hp;obtain⟨b,hb,hbv⟩:=hp;injection hbv with hbv;injection hbv with hbv;injection hbv with hbv;subst hbv;refine⟨.slice (some ⟨w.heap.size,0,none⟩) n n,_,β2,env1,_,.tS sz d 0 n,?_,hst2,?_,by rw[<-hlen];exact hk1⟩
 ·have hbig:¬(n*i.size>2^24):=by rw[hisz];omega
  rw[hisz]at hbig;have hrun:(Instr.buildSlice t n (ps.map fun(i,x)=>(i,a.eval x))).run P w=.ok (.slice (some ⟨w.heap.size,0,none⟩) n n) (w.alloc (.cells out e)):=by
   simp only[Instr.buildSlice,aR,aY ht,aF,Go.sizeOf,typeInfo,cQ,hi,a_,hisz];rw[aJ hbig];by_cases h0:n*sz=0
   ·have he:((Array.range (n*sz)).map fun i=>u.cells[i%u.cells.size]!)=#[]:=by rw[h0];simp
    have he':((Array.range (n*sz)).map fun i=>(#[]:Array Value)[i%(#[]:Array Value).size]!)=#[]:=by rw[h0];simp
    rw[he,<-he']at h2;rw[aE h0];simp only[a_,aF,h2,aR,newRow,dR,cX]
   ·rw[aJ h0];simp only[zeroValue,typeInfo,aR,cQ,hi,hzu,a_,aF,h2,newRow,dR,cX]
  simp only[execOp,hop,aR,hrun,aF,a_]
 ·simp only[AV.ok];exact⟨_,n,hb,⟨aO _,by have:n<=n*sz:=cj _ hsz0;omega⟩,rfl⟩
end
def qv(β:gZ)(s:gQ)(id b o:Nat):Prop:=
 match sat s id with
 |.dead=>False
 |.obj _ _=>β id=.CU b
 |.tok _ e n=>∃cap,β id=.tok (.slice (some ⟨b,0,none⟩) n cap) n/\n*e<=o
 |.lO _ _ n _=>∃cap,β id=.tok (.slice (some ⟨b,0,none⟩) n cap) n
 |.jj _ e n _=>∃cap bs,β id=.jj (.slice (some ⟨b,0,none⟩) n cap) n bs/\n*e<=o
 |.oU _ n _=>∃v bs,β id=.jj v n bs/\((∃cap,v=.slice (some ⟨b,0,none⟩) n cap/\0<cap)\/b∈bs)
 |.mp _ _ _=>False
theorem GC{β:gZ}{s:gQ}{b o:Nat}:own β s b o<->∃id,qv β s id b o:=cN
theorem qv.block{β:gZ}{s:gQ}{id b o:Nat}(h:qv β s id b o):gy β s id b:=by
 unfold qv at h;unfold gy;cases hs:sat s id with
 |dead=>rw[hs]at h;exact h
 |obj t cs=>rw[hs]at h;exact h
 |tok t e n=>rw[hs]at h;obtain⟨cap,h1,_⟩:=h;exact⟨cap,h1⟩
 |lO t e n cs=>rw[hs]at h;exact h
 |jj t e n cs=>rw[hs]at h;obtain⟨cap,bs,h1,_⟩:=h;exact⟨_,bs,h1,.inl ⟨cap,rfl⟩⟩
 |oU e n cs=>rw[hs]at h;exact h
 |mp P k es=>rw[hs]at h;exact h.elim
theorem Nw{β:gZ}{O:Own}{w:World}{x:AV}{v:Value}(hx:CQ x=false)(h:AV.ok β O w x v):NX β O w x v []:=by
 cases x with
 |dp d=>cases hx
 |_=>exact⟨h,rfl⟩
theorem uP{β:gZ}{O:Own}{w:World}:∀{cs:List AV}{vs rest:List Value},uN cs=true->AV.iK β O w cs vs->oT β O w cs (vs++rest) []
 |[],_,_,_,_=>by simp[oT]
 |x::xs,vs,rest,hd,h=>by
  simp only[uN,List.all_cons,bq,eJ]at hd;simp only[AV.iK]at h;obtain⟨v,r,rfl,h2,h3⟩:=h;simp only[oT];exact⟨v,r++rest,[],[],by simp,rfl,Nw hd.1 h2,uP (by simpa[uN]using hd.2) h3⟩
theorem nZ{β:gZ}{O:Own}{w:World}:∀{cs ds:List AV}{us vs:List Value}{b1 b2:List Nat},us.length=cs.length->oT β O w cs us b1->oT β O w ds vs b2->oT β O w (cs++ds) (us++vs) (b1++b2)
 |[],ds,us,vs,b1,b2,hl,h1,h2=>by
  simp only[oT]at h1;subst h1;have:us=[]:=bp.1 hl;subst this;simpa using h2
 |x::xs,ds,us,vs,b1,b2,hl,h1,h2=>by
  simp only[oT]at h1;obtain⟨v,r,c1,c2,rfl,rfl,h3,h4⟩:=h1;simp only[bH,oT];exact⟨v,r++vs,c1,c2++b2,rfl,by simp,h3,nZ (by simpa using hl) h4 h2⟩
theorem rD{β:gZ}{O:Own}{w:World}:∀{cs:List AV}{us vs:List Value}{bs:List Nat},oT β O w cs us bs->us.take cs.length=vs.take cs.length->oT β O w cs vs bs
 |[],_,_,_,h,_=>by simpa[oT]using h
 |x::xs,us,vs,bs,h,he=>by
  simp only[oT]at h⊢;obtain⟨v,r,c1,c2,rfl,rfl,h3,h4⟩:=h;cases vs with
  |nil=>simp at he
  |cons y ys=>
   simp only[aK,ew,eU]at he;obtain⟨rfl,he⟩:=he;exact⟨v,ys,c1,c2,rfl,rfl,h3,rD h4 he⟩
theorem yo{β:gZ}{O:Own}{w:World}:∀{cs:List AV}{us:List Value}{bs:List Nat},oT β O w cs us bs->cs.length<=us.length
 |[],_,_,_=>by simp
 |x::xs,us,bs,h=>by
  simp only[oT]at h;obtain⟨v,r,c1,c2,rfl,rfl,_,h4⟩:=h;have:=yo h4;simp;omega
theorem Da{β:gZ}{O:Own}{w:World}:∀{n:Nat}{us:List Value},n<=us.length->oT β O w (List.replicate n .iN) us []
 |0,_,_=>by simp[oT]
 |n+1,[],h=>by simp at h
 |n+1,u::us,h=>by
  simp only[cp,oT];exact⟨u,us,[],[],rfl,rfl,⟨by simp[AV.ok],rfl⟩,Da (by simpa using h)⟩
theorem uQ{β:gZ}{O:Own}{w:World}:∀{cs ds:List AV}{us:List Value}{bs:List Nat},oT β O w (cs++ds) us bs->cs.length<=us.length/\∃b1 b2,bs=b1++b2/\oT β O w cs us b1/\oT β O w ds (us.drop cs.length) b2
 |[],ds,us,bs,h=>⟨by simp,[],bs,rfl,by simp[oT],by simpa using h⟩
 |x::xs,ds,us,bs,h=>by
  simp only[bH,oT]at h;obtain⟨v,r,c1,c2,rfl,rfl,h3,h4⟩:=h;obtain⟨h5,b1,b2,rfl,h6,h7⟩:=uQ h4;exact⟨by simpa using h5,c1++b1,b2,by simp,by simp only[oT];exact⟨v,r,c1,b1,rfl,rfl,h3,h6⟩,by simpa using h7⟩
theorem Ci{β:gZ}{O:Own}{w:World}:∀{n:Nat}{us:List Value}{bs:List Nat},oT β O w (List.replicate n .iN) us bs->bs=[]
 |0,_,_,h=>by simpa[oT]using h
 |n+1,us,bs,h=>by
  simp only[cp,oT]at h;obtain⟨v,r,c1,c2,rfl,rfl,h3,h4⟩:=h;rw[Ci h4];simpa[NX]using h3.2
theorem St.UB{C:Ctx}{β:gZ}{env:List AV}{s:gQ}{a:Act}{w:World}(h:St C β env s a w){id:Nat}
 {ob:Ob} {p:Place} {c:Array Value} {t:Nat} (hpl:mG (β id) p)
 (hown:∀b o,own (gG β id p) [(id,ob)] b o->b=w.heap.size)
 (hbl:∀b,gy (gG β id p) [(id,ob)] id b->b=w.heap.size\/gy β s id b)
 (hob:∀β' F,(∀x v,AV.ok β (C.gO β s) w x v->AV.ok β' F (w.alloc (.cells c t)) x v)->β' id=p->vO β' F (w.alloc (.cells c t)) id ob):
 St C (gG β id p) env (sset s id ob) a (w.alloc (.cells c t))/\mu β s w (gG β id p) (sset s id ob) (w.alloc (.cells c t)):=by
 have m:mu β s w (gG β id p) (sset s id ob) (w.alloc (.cells c t)):=by
  refine⟨by simp,rfl,fun b o v hc _=>?_,fun b hb _=>b_ hb,fun b o ho=>?_,fun i b hb=>?_,fun i=>?_⟩
  ·rw[<-hc];exact cF (b_ (uZ hc))
  ·rcases sX ho with ho|ho
   ·exact .inl ho
   ·exact .inr (dW (hown b o ho).symm)
  ·rcases jk hb with⟨_,hb⟩|⟨_,hb⟩
   ·exact .inl ⟨i,hb⟩
   ·rcases hbl b hb with hb|hb
    ·exact .inr (dW hb.symm)
    ·exact .inl ⟨id,hb⟩
  ·by_cases hi:i=id
   ·subst hi;simpa[gG]using hpl
   ·simp only[gG,hi,ay];exact .refl _
 refine⟨h.move m (fun i=>?_) (fun i j b hi hj=>?_),m⟩
 ·rw[iE];by_cases hi:i=id
  ·subst hi;simp only[aj];exact hob _ _ (fun x v hx=>m.ok hx) (by simp[gG])
  ·simp only[hi,ay];exact(h.inv.obs i).sJ m (by simp[gG,hi]) (fun b hb=>b_ (h.inv.qo hb)) rfl
 ·rcases jk hi with⟨hi1,hi2⟩|⟨rfl,hi2⟩<;>rcases jk hj with⟨hj1,hj2⟩|⟨rfl,hj2⟩
  ·exact h.inv.inj i j b hi2 hj2
  ·rcases hbl b hj2 with hb|hb
   ·have:=h.inv.qo hi2;omega
   ·exact h.inv.inj _ _ b hi2 hb
  ·rcases hbl b hi2 with hb|hb
   ·have:=h.inv.qo hj2;omega
   ·exact h.inv.inj _ _ b hb hj2
  ·rfl
theorem DW{C:Ctx}{β:gZ}{env:List AV}{s:gQ}{a:Act}{w:World}(h:St C β env s a w){id t e n cap:Nat}{c:Array Value}{xs:List D}{cs:List AV}{bs:List Nat}
 (hpl:mG (β id) (.jj (.slice (some ⟨w.heap.size,0,none⟩) n cap) n bs)) (hbs:∀b∈bs,gy β s id b) (hnd:bs.Nodup)
 (hsz:c.size=cap*e) (hn:n<=cap) (hcap:cap<2^63) (h1:∀v∈c.toList,one v=true) (hx:xs.length=n)
 (hrow:∀(O':Own)(w':World),(∀b o v,w.cell? ⟨b,o,none⟩=some v->¬C.gO β s b o->w'.cell? ⟨b,o,none⟩=some v/\¬O' b o)->
  jW O' w' w.heap.size 0 (c.toList.take (n*e))->D.row O' w' w.heap.size 0 e xs)
 (hcs:cs.length=n*e)
 (hnx:∀β' F w',(∀x v,AV.ok β (C.gO β s) w x v->AV.ok β' F w' x v)->(∀b∈bs,w'.heap[b]?=w.heap[b]?)->oT β' F w' cs c.toList bs):
 ∃β',St C β' env (sset s id (.jj t e n cs)) a (w.alloc (.cells c t))/\
  AV.ok β' (C.gO β' (sset s id (.jj t e n cs))) (w.alloc (.cells c t)) (.own e id xs) (.slice (some ⟨w.heap.size,0,none⟩) n cap)/\
  β'=gG β id (.jj (.slice (some ⟨w.heap.size,0,none⟩) n cap) n bs):=by
 have hlt:∀b∈bs,b<w.heap.size:=fun b hb=>h.inv.qo (hbs b hb)
 obtain⟨h2,m⟩:=h.UB (id:=id) (ob:=.jj t e n cs) (p:=.jj (.slice (some ⟨w.heap.size,0,none⟩) n cap) n bs) (c:=c) (t:=t) hpl
  (fun b o ho=>by
   obtain⟨i,ho⟩:=ho;by_cases hi:i=id
   ·subst hi;simp only[sat,aj,gG]at ho;obtain⟨cap',bs',ho,_⟩:=ho;simp at ho;exact ho.1.1.symm
   ·simp[sat,hi]at ho)
  (fun b hb=>by
   simp only[gy,sat,aj,gG]at hb;obtain⟨v',bs',hb,hb2⟩:=hb;simp at hb;obtain⟨rfl,rfl⟩:=hb;rcases hb2 with⟨cap',hb2⟩|hb2
   ·simp at hb2;exact .inl hb2.1.symm
   ·exact .inr (hbs b hb2))
  (fun β' F hok hp=>⟨_,bs,hp,fun b hb=>by
   obtain⟨o,ho⟩:∃o,w.heap[b]?=some o:=⟨_,ck (hlt b hb)⟩;have:=h.inv.obs id;have hbo:=hbs b hb;unfold gy at hbo;rw[b_ (hlt b hb)];cases hs:sat s id with
   |dead=>rw[hs]at hbo;exact hbo.elim
   |obj t' cs'=>rw[hs]at hbo this;obtain⟨b',vs,k1,k2,_⟩:=this;rw[hbo]at k1;cases k1;exact⟨vs,t',k2⟩
   |mp P k es=>rw[hs]at this;obtain⟨b',k1,_⟩:=this;rw[k1]at hpl;cases hpl
   |tok t' e' n'=>
    rw[hs]at hbo this;obtain⟨cap',hbo⟩:=hbo;obtain⟨u,k1,k2⟩:=this;rw[hbo]at k1;cases k1;rcases k2 with⟨k2,_⟩|⟨b',cap2,vs,k2,k3,_⟩
    ·cases k2
    ·cases k2;exact⟨vs,t',k3⟩
   |lO t' e' n' cs'=>
    rw[hs]at hbo this;obtain⟨cap',hbo⟩:=hbo;obtain⟨u,k1,_,k2⟩:=this;rw[hbo]at k1;cases k1;rcases k2 with⟨k2,_⟩|⟨b',cap2,vs,k2,k3,_⟩
    ·cases k2
    ·cases k2;exact⟨vs,t',k3⟩
   |jj t' e' n' cs'=>
    rw[hs]at hbo this;obtain⟨v,bs',hbo,hb2⟩:=hbo;obtain⟨u,bs2,k1,k0,_,k2⟩:=this;rw[hbo]at k1;cases k1;rcases hb2 with⟨cap',rfl⟩|hb2
    ·rcases k2 with⟨k2,_⟩|⟨b',cap2,vs,k2,k3,_⟩
     ·cases k2
     ·cases k2;exact⟨vs,t',k3⟩
    ·exact k0 b hb2
   |oU e' n' cs'=>
    rw[hs]at hbo this;obtain⟨v,bs',hbo,hb2⟩:=hbo;obtain⟨u,bs2,k1,k0,_,k2⟩:=this;rw[hbo]at k1;cases k1;rcases hb2 with⟨cap',rfl,hc0⟩|hb2
    ·rcases k2 with⟨⟨_,k2⟩,_⟩|⟨b',cap2,vs,t2,k2,k3,_⟩
     ·simp only[bw]at k2;omega
     ·cases k2;exact⟨vs,t2,k3⟩
    ·exact k0 b hb2,
   hcs,.inr ⟨w.heap.size,cap,c,rfl,cW,hsz,hn,hcap,h1,bJ.2 ⟨fun hb=>Nat.lt_irrefl _ (hlt _ hb),hnd⟩,
    hnx β' F _ hok fun b hb=>b_ (hlt b hb)⟩⟩)
 refine⟨_,h2,?_,rfl⟩;simp only[AV.ok,D.ok];refine⟨⟨_,cap,by rw[hx],⟨gu,hcap⟩,trivial,?_⟩,_,n,by simp[gG,Place.at],gu,fun _=>rfl⟩;right;refine⟨w.heap.size,0,rfl,hrow _ _ m.stays ?_⟩;refine u_ cW (fun j v hj=>?_) (fun j hj hf=>?_) (fun v hv=>h1 v (bg hv))
 ·rw[bL]at hj;split at hj
  ·simpa using hj
  ·cases hj
 ·rcases hf with hf|hf
  ·have:=(h.inv.low _ _ hf).1;have:=h.inv.size;omega
  ·rcases sX hf with hf|hf
   ·have:=h.inv.J_ hf;omega
   ·obtain⟨i,hf⟩:=hf;by_cases hi:i=id
    ·subst hi;simp only[sat,aj,gG]at hf;obtain⟨_,_,_,hf⟩:=hf;have:(c.toList.take (n*e)).length<=n*e:=List.length_take_le _ _;omega
    ·simp[sat,hi]at hf
section
variable{P:Program}{C:Ctx}{o:Oper}{env:List AV}{s:gQ}{k:List AV->gQ->Prop}
theorem qH.U2{O:Own}{w:World}{sz:Nat}:∀{ds:List D}{us:List Value},qH O w sz ds us->∀v∈us,one v=true
 |[],us,h,v,hv=>by simp only[qH]at h;subst h;cases hv
 |x::xs,us,h,v,hv=>by
  simp only[qH]at h;obtain⟨p,r,rfl,_,h6,h7⟩:=h;rcases aG.1 hv with hv|hv
  ·obtain⟨i,hi⟩:=cC hv;have hlt:i<(gD x).length:=by rw[<-D.iS h6];exact(aN.1 hi).1
   exact((D.kM.1 h6).2 i _ v (aA hlt) hi).1
  ·exact qH.U2 h7 v hv
theorem HT{f:AV->AV}(hf:∀x,CQ x=false->CQ (f x)=false):∀{cs:List AV},uN cs=true->uN (cs.map f)=true
 |[],_=>rfl
 |x::xs,h=>by
  simp only[uN,aT,List.all_cons,bq,eJ]at h⊢;exact⟨hf x h.1,by simpa[uN]using HT hf (cs:=xs) (by simpa[uN]using h.2)⟩
theorem OW{ρ:Nat->Option Nat}(x:AV)(h:CQ x=false):CQ (x.hG ρ)=false:=by
 cases x<;>simp only[AV.hG]<;>first|rfl|(split<;>rfl)|exact h
theorem U9{d t n:Nat}{ps:Array (Nat×Operand)}(hop:o.op=.buildSlice t n ps){e sz:Nat}(ht:P.underlying t=some (.slice e))(hsz:kZ P e=some sz)
 {z:List D} (hz:sL P e=some z) (hn:n*sz<=2^24) (hsz0:0<sz) {xs:List Operand} (hxs:rW n ps.toList=some xs)
 {ds:List D} (hds:AV.nC (xs.map (ev env))=some ds) (hel:∀x∈ds,(gD x).length=sz) {cs:List AV} (hcs0:AV.flat sz (xs.map (ev env))=some cs) (hnd:uN cs=true)
 (hk:C.k<=d/\(if(sat s d).kU then k (iU o.dst env (.own sz d ds)) (sset s d (.jj e sz ds.length cs))
  else k (iU o.dst (AV.gY (gC d) env) (.own sz d ds)) (sset (gS d s) d (.jj e sz ds.length (cs.map (AV.hG (gC d))))))):mU P C o env s k:=by
 refine .value fun β a w hst=>?_
 obtain⟨i,u,hi,hzu,hzs,h1,_⟩:=nE hz;have hisz:i.size=sz:=by obtain⟨i',h1,h2⟩:=kT hsz;rw[hi]at h1;cases h1;exact h2
 have hxs':ps.toList.map (·.1)=List.range n/\ps.toList.map (·.2)=xs:=by
  unfold rW at hxs;split at hxs
  ·cases hxs;exact⟨by assumption,rfl⟩
  ·cases hxs
 have hlen:xs.length=n:=by rw[<-hxs'.2];simp;have:=bW List.length hxs'.1;simpa using this
 obtain⟨hdl,hdv⟩:=xk hds;have hdl':ds.length=n:=by rw[hdl,aS,hlen]
 have hok:∀(i:Nat)(d:D)(v:Value),ds[i]?=some d->(xs.map a.eval)[i]?=some v->D.ok (C.gO β s) w d v:=by
  intro i d v hd hv;rw[bA]at hv;cases hx:xs[i]? with
  |none=>rw[hx]at hv;cases hv
  |some x=>
   rw[hx]at hv;cases hv;exact Dy (hst.ev x) (hdv i (ev env x) d (by rw[bA,hx];rfl) hd)
 have hall:∀ys:List Operand,AV.iK β (C.gO β s) w (ys.map (ev env)) (ys.map a.eval):=by
  intro ys;induction ys with
  |nil=>simp[AV.iK]
  |cons y ys ih=>simp only[aT,AV.iK];exact⟨_,_,rfl,hst.ev y,ih⟩
 obtain⟨hokc,hcs,hone⟩:=Ge hcs0 (hall xs);obtain⟨out,h2,us,h3,h4⟩:=A7 (O:=C.gO β s) (w:=w) (e:=sz) ds (xs.map a.eval) 0 ((Array.range (n*sz)).map fun i=>u.cells[i%u.cells.size]!) hcs hok (by simp[hdl',hlen]) (by simp[hlen]);obtain⟨out2,g2,g4⟩:=BR (xs.map a.eval) 0 ((Array.range (n*sz)).map fun i=>u.cells[i%u.cells.size]!) hcs (by simp[hlen]);rw[h2]at g2;cases g2;simp only[dM,eY,bl]at h4 g4;have hzip:((xs.map a.eval).zipIdx 0).map (fun p=>(p.2,p.1))=(ps.map fun p=>(p.1,a.eval p.2)).toList:=by
  rw[dQ];apply dL;intro j;simp only[bA,eo];have e1:=bW (·[j]?) hxs'.1;have e2:=bW (·[j]?) hxs'.2;simp only[bA]at e1 e2;cases hp:ps.toList[j]? with
  |none=>rw[hp]at e2;simp at e2;simpa using e2
  |some p=>
   rw[hp]at e1 e2;simp at e1 e2;rw[<-e2];have hj:j<n:=by
    rcases cG j n with h|h
    ·exact h
    ·rw[bK (by simpa using h)]at e1;cases e1
   rw[ey hj]at e1;cases e1;simp
 rw[hzip]at h2;have hul:=h3.length;rw[<-g4]at hokc;have hcl:cs.length=ds.length*sz:=by rw[<-AV.iS hokc,h4,hul]
 have key:∃β1 env1 s1 f,St C β1 env1 s1 a w/\sat s1 d=.dead/\k (iU o.dst env1 (.own sz d ds)) (sset s1 d (.jj e sz ds.length (cs.map f)))/\uN (cs.map f)=true/\
  (∀x v,AV.ok β (C.gO β s) w x v->AV.ok β1 (C.gO β1 s1) w (f x) v)/\∀b o,C.gO β1 s1 b o->C.gO β s b o:=by
  obtain⟨hk0,hk⟩:=hk;split at hk
  ·rename_i hd;exact⟨β,env,s,fun x=>x,hst,by cases hs:sat s d<;>simp_all[Ob.kU],by simpa using hk,by simpa using hnd,fun x v hx=>hx,fun _ _ h=>h⟩
  ·exact⟨_,_,_,AV.hG (gC d),hst.kill d hk0,by rw[sd];simp,hk,HT OW hnd,fun x v hx=>xo hx,fun _ _ h=>h.imp (fun x=>x) uH⟩
 obtain⟨β1,env1,s1,f,hst1,hd1,hk1,hnd1,hf0,hf⟩:=key;have hno:β1 d=.no:=by have:=hst1.inv.obs d;rw[hd1]at this;exact this
 have hokf:=Bo hf0 hokc;obtain⟨β',hst',hok',_⟩:=DW hst1 (id:=d) (t:=e) (e:=sz) (n:=ds.length) (cap:=ds.length) (c:=out) (xs:=ds) (cs:=cs.map f) (bs:=[]) (by rw[hno];trivial) (by simp) (by simp)
  (by rw[<-hul,<-h4];simp) (aO _) (by rw[hdl'];have:n<=n*sz:=cj _ hsz0;omega)
  (by rw[h4];exact h3.U2) rfl
  (fun O' w' hm hc=>by
   rw[h4,<-hul,cK]at hc;exact h3.row (fun b o v q1 q2=>hm b o v q1 fun h=>q2 (hf b o h)) hc)
  (by simpa using hcl)
  (fun β' F w' hm _=>by
   have h5:AV.iK β' F w' (cs.map f) out.toList:=by
    rw[AV.kM]at hokf⊢;exact⟨hokf.1,fun i x v h1 h2=>hm x v (hokf.2 i x v h1 h2)⟩
   simpa using uP (rest:=[]) hnd1 h5)
 refine⟨.slice (some ⟨w.heap.size,0,none⟩) ds.length ds.length,_,β',env1,_,_,?_,hst',hok',hk1⟩;have hbig:¬(n*i.size>2^24):=by rw[hisz];omega
 rw[hdl'];rw[hisz]at hbig;have hrun:(Instr.buildSlice t n (ps.map fun(i,x)=>(i,a.eval x))).run P w=.ok (.slice (some ⟨w.heap.size,0,none⟩) n n) (w.alloc (.cells out e)):=by
  simp only[Instr.buildSlice,aR,aY ht,aF,Go.sizeOf,typeInfo,cQ,hi,a_,hisz];rw[aJ hbig];by_cases h0:n*sz=0
  ·have he:((Array.range (n*sz)).map fun i=>u.cells[i%u.cells.size]!)=#[]:=by rw[h0];simp
   have he':((Array.range (n*sz)).map fun i=>(#[]:Array Value)[i%(#[]:Array Value).size]!)=#[]:=by rw[h0];simp
   rw[he,<-he']at h2;rw[aE h0];simp only[a_,aF,h2,aR,newRow,dR,cX]
  ·rw[aJ h0];simp only[zeroValue,typeInfo,aR,cQ,hi,hzu,a_,aF,h2,newRow,dR,cX]
 simp only[execOp,hop,aR,hrun,aF,a_]
end
theorem St.Ql{C:Ctx}{β:gZ}{env:List AV}{s:gQ}{a:Act}{w w':World}(h:St C β env s a w){id b:Nat}{ob:Ob}{p:Place}
 (hbl:gy β s id b) (hsize:w'.heap.size=w.heap.size) (hio:EL w'=EL w) (hoth:∀b',b'≠b->w'.heap[b']?=w.heap[b']?)
 (hkeep:∀o v,w.cell? ⟨b,o,none⟩=some v->¬own β s b o->w'.cell? ⟨b,o,none⟩=some v)
 (hown:∀b' o,own (gG β id p) [(id,ob)] b' o->own β s b' o)
 (hblk:∀b',gy (gG β id p) [(id,ob)] id b'->gy β s id b')
 (hpl:mG (β id) p)
 (hob:∀β' F,(∀x v,AV.ok β (C.gO β s) w x v->AV.ok β' F w' x v)->β' id=p->vO β' F w' id ob):
 St C (gG β id p) env (sset s id ob) a w'/\mu β s w (gG β id p) (sset s id ob) w':=by
 have m:mu β s w (gG β id p) (sset s id ob) w':=by
  refine⟨gu,hio,fun b' o v hc hn=>?_,fun b' _ hn=>?_,fun b' o ho=>?_,fun i b' hb=>?_,fun i=>?_⟩
  ·by_cases hbb:b'=b
   ·subst hbb;exact hkeep o v hc hn
   ·rw[<-hc];exact cF (hoth b' hbb)
  ·exact hoth b' fun e=>hn id (e▸hbl)
  ·rcases sX ho with ho|ho
   ·exact .inl ho
   ·exact .inl (hown b' o ho)
  ·rcases jk hb with⟨_,hb⟩|⟨_,hb⟩
   ·exact .inl ⟨i,hb⟩
   ·exact .inl ⟨id,hblk b' hb⟩
  ·by_cases hi:i=id
   ·subst hi;simpa[gG]using hpl
   ·simp only[gG,hi,ay];exact .refl _
 refine⟨h.move m (fun i=>?_) (fun i j b' hi hj=>?_),m⟩
 ·rw[iE];by_cases hi:i=id
  ·subst hi;simp only[aj];exact hob _ _ (fun x v hx=>m.ok hx) (by simp[gG])
  ·simp only[hi,ay];refine(h.inv.obs i).sJ m (by simp[gG,hi]) (fun b' hb=>hoth b' fun e=>hi ?_) rfl;subst e;exact h.inv.inj i id b' hb hbl
 ·rcases jk hi with⟨hi1,hi2⟩|⟨rfl,hi2⟩<;>rcases jk hj with⟨hj1,hj2⟩|⟨rfl,hj2⟩
  ·exact h.inv.inj i j b' hi2 hj2
  ·exact absurd (h.inv.inj i _ b' hi2 (hblk b' hj2)) hi1
  ·exact absurd (h.inv.inj j _ b' hj2 (hblk b' hi2)) hj1
  ·rfl
theorem zB{β β':gZ}{O O':Own}{w w':World}(hf:∀x v,AV.ok β O w x v->AV.ok β' O' w' x v):∀{xs:List AV}{vs:List Value},AV.iK β O w xs vs->AV.iK β' O' w' xs vs
 |[],_,h=>by simpa[AV.iK]using h
 |x::xs,vs,h=>by
  simp only[AV.iK]at h⊢;obtain⟨v,r,rfl,h2,h3⟩:=h;exact⟨v,r,rfl,hf _ _ h2,zB hf h3⟩
theorem Q3{β:gZ}{O:Own}{w:World}{cs:List AV}{us:List Value}{bs:List Nat}{off n:Nat}(h:oT β O w cs us bs)(hl:off+n<=cs.length):
 ∃b1 bm b2,bs=b1++(bm++b2)/\oT β O w (cs.take off) us b1/\oT β O w (cs.drop (off+n)) (us.drop (off+n)) b2:=by
 have e:cs=cs.take off++((cs.drop off).take n++cs.drop (off+n)):=by rw[<-List.drop_drop,bQ,bQ]
 rw[e]at h;obtain⟨h1,b1,b',rfl,h2,h3⟩:=uQ h;obtain⟨h4,bm,b2,rfl,_,h6⟩:=uQ h3;have l1:(cs.take off).length=off:=by simp;omega
 have l2:((cs.drop off).take n).length=n:=by simp;omega
 rw[l1,l2,List.drop_drop]at h6;exact⟨b1,bm,b2,rfl,h2,h6⟩
section
variable{P:Program}{C:Ctx}{o:Oper}{env:List AV}{s:gQ}{k:List AV->gQ->Prop}
theorem PN{β:gZ}{a:Act}{w:World}(hst:St C β env s a w){id e m g cap n off:Nat}{cs xs:List AV}{bs:List Nat}{vs:Array Value}{t:Nat}{news:Array Value}
 (hs:sat s id=.oU e m cs) (hb:β id=.jj (.slice (some ⟨g,0,none⟩) m cap) m bs) (hh:w.heap[g]?=some (.cells vs t (0,0)))
 (hl1:xs.length=n) (hl2:off+n<=cs.length) (hnd:uN xs=true) (hlv:off+n<=vs.size)
 (hx1:AV.iK β (C.gO β s) w xs news.toList) (hx2:∀u∈news.toList,one u=true) (hc0:0<cap:=by assumption):
 ∃β',St C β' env (sset s id (.oU e m (cs.take off++xs++cs.drop (off+n)))) a (w.setRow g (vs.toList.take off++news.toList++vs.toList.drop (off+n)).toArray):=by
 have ho:=hst.inv.obs id;rw[hs]at ho;obtain⟨u,bs',k1,k0,k3,k4⟩:=ho;rw[hb]at k1;cases k1;rcases k4 with⟨⟨_,k4⟩,_⟩|⟨g',cap',vs',t',k4,k5,k6,k7,k8,k9,_,k10,k11⟩
 ·simp only[bw]at k4;omega
 cases k4;rw[hh]at k5;cases k5;have hlx:=AV.iS hx1;obtain⟨b1,bm,b2,rfl,n1,n2⟩:=Q3 (off:=off) (n:=n) k11 hl2;have hbl:gy β s id g:=by unfold gy;rw[hs];exact⟨_,_,hb,.inl ⟨cap,rfl,hc0⟩⟩
 have hsubm:∀q,q∈b1++b2->q∈b1++(bm++b2):=fun q hq=>by
  rcases aG.1 hq with h|h
  ·simp[h]
  ·simp[h]
 have hgb:∀b∈b1++b2,b≠g:=fun b hb e=>(bJ.1 k10).1 (e▸hsubm b hb)
 have hh':=dS w g vs (vs.toList.take off++news.toList++vs.toList.drop (off+n)).toArray t (0,0) hh;have hOth:∀b',b'≠g->(w.setRow g (vs.toList.take off++news.toList++vs.toList.drop (off+n)).toArray).heap[b']?=w.heap[b']?:=fun b' hb'=>dZ w g b' _ (fun e=>hb' e)
 obtain⟨hst',_⟩:=hst.Ql (id:=id) (b:=g) (ob:=.oU e m (cs.take off++xs++cs.drop (off+n))) (p:=.jj (.slice (some ⟨g,0,none⟩) m cap) m (b1++b2))
  (w':=w.setRow g (vs.toList.take off++news.toList++vs.toList.drop (off+n)).toArray) hbl (by simp) (by simp[EL]) hOth
  (fun q v hcell hn=>absurd ⟨id,by rw[hs];exact⟨_,_,hb,.inl ⟨cap,rfl,hc0⟩⟩⟩ hn)
  (fun b' q hown=>by
   obtain⟨i',hown⟩:=hown;by_cases hi':i'=id
   ·subst hi';simp only[sat,aj,gG]at hown;obtain⟨v',q',p1,p2⟩:=hown;simp only[Place.jj.injEq,cx]at p1;obtain⟨rfl,rfl⟩:=p1;refine⟨i',?_⟩;rw[hs];exact⟨_,_,hb,p2.imp (fun x=>x) (hsubm b')⟩
   ·simp[sat,hi']at hown)
  (fun b' hb'=>by
   simp only[gy,sat,aj,gG]at hb';obtain⟨v',q',p1,p2⟩:=hb';simp only[Place.jj.injEq,cx]at p1;obtain⟨rfl,rfl⟩:=p1;unfold gy;rw[hs];exact⟨_,_,hb,p2.imp (fun x=>x) (hsubm b')⟩)
  (by rw[hb];exact⟨_,_,_,rfl,aO _,fun _=>rfl⟩)
  (fun β' F hok hp=>⟨_,_,hp,fun b hb=>by rw[hOth b (hgb b hb)];exact k0 b (hsubm b hb),by
   rw[<-k3];simp only[au,aU,bX];omega,
   .inr ⟨g,cap,_,t,rfl,hh',by
    simp only[cz,au,aU,bX,Array.length_toList]at hlx⊢;omega,k7,k8,fun v hv=>by
     simp only[aG]at hv;rcases hv with(hv|hv)|hv
     ·exact k9 v (bg hv)
     ·exact hx2 v hv
     ·exact k9 v (bO hv),hc0,by
    have h1:=bJ.1 k10;refine bJ.2 ⟨fun h=>h1.1 (hsubm g h),?_⟩;have h2:=cg.1 h1.2;have h3:=cg.1 h2.2.1;exact cg.2 ⟨h2.1,h3.2.1,fun x hx y hy=>h2.2.2 x hx y (eW _ hy)⟩,by
    have e1:=oT.imp (f:=fun x=>x) (qb hok) (fun b hb=>hOth b (hgb b (by simp[hb]))) n1;have e2:=oT.imp (f:=fun x=>x) (qb hok) (fun b hb=>hOth b (hgb b (by simp[hb]))) n2;rw[de]at e1 e2;have e3:oT β' F (w.setRow g (vs.toList.take off++news.toList++vs.toList.drop (off+n)).toArray) xs (news.toList++vs.toList.drop (off+n)) []:=
     uP hnd (zB hok hx1)
    have lt:(cs.take off).length=off:=by simp;omega
    have e4:=rD (vs:=vs.toList.take off) e1 (by rw[lt,dx,dN]);have e5:=nZ (us:=vs.toList.take off) (by rw[lt,aU,Array.length_toList];omega) e4 (nZ (us:=news.toList) (b1:=[]) (by rw[hlx]) (rD e3 (by rw[<-hlx,fG];rw[cK];rfl)) e2);simpa[aI]using e5⟩⟩)
 exact⟨_,hst'⟩
end
theorem St.UC{C:Ctx}{β:gZ}{env:List AV}{s:gQ}{a:Act}{w:World}(h:St C β env s a w){id:Nat}
 {ob:Ob} {p:Place} {c:Array Value} {t:Nat} (hpl:mG (β id) p)
 (hown:∀b o,own (gG β id p) [(id,ob)] b o->b=w.heap.size\/own β s b o)
 (hbl:∀b,gy (gG β id p) [(id,ob)] id b->b=w.heap.size\/gy β s id b)
 (hob:∀β' F,(∀x v,AV.ok β (C.gO β s) w x v->AV.ok β' F (w.alloc (.cells c t)) x v)->β' id=p->vO β' F (w.alloc (.cells c t)) id ob):
 St C (gG β id p) env (sset s id ob) a (w.alloc (.cells c t))/\mu β s w (gG β id p) (sset s id ob) (w.alloc (.cells c t)):=by
 have m:mu β s w (gG β id p) (sset s id ob) (w.alloc (.cells c t)):=by
  refine⟨by simp,rfl,fun b o v hc _=>?_,fun b hb _=>b_ hb,fun b o ho=>?_,fun i b hb=>?_,fun i=>?_⟩
  ·rw[<-hc];exact cF (b_ (uZ hc))
  ·rcases sX ho with ho|ho
   ·exact .inl ho
   ·rcases hown b o ho with h|h
    ·exact .inr (dW h.symm)
    ·exact .inl h
  ·rcases jk hb with⟨_,hb⟩|⟨_,hb⟩
   ·exact .inl ⟨i,hb⟩
   ·rcases hbl b hb with hb|hb
    ·exact .inr (dW hb.symm)
    ·exact .inl ⟨id,hb⟩
  ·by_cases hi:i=id
   ·subst hi;simpa[gG]using hpl
   ·simp only[gG,hi,ay];exact .refl _
 refine⟨h.move m (fun i=>?_) (fun i j b hi hj=>?_),m⟩
 ·rw[iE];by_cases hi:i=id
  ·subst hi;simp only[aj];exact hob _ _ (fun x v hx=>m.ok hx) (by simp[gG])
  ·simp only[hi,ay];exact(h.inv.obs i).sJ m (by simp[gG,hi]) (fun b hb=>b_ (h.inv.qo hb)) rfl
 ·rcases jk hi with⟨hi1,hi2⟩|⟨rfl,hi2⟩<;>rcases jk hj with⟨hj1,hj2⟩|⟨rfl,hj2⟩
  ·exact h.inv.inj i j b hi2 hj2
  ·rcases hbl b hj2 with hb|hb
   ·have:=h.inv.qo hi2;omega
   ·exact h.inv.inj _ _ b hi2 hb
  ·rcases hbl b hi2 with hb|hb
   ·have:=h.inv.qo hj2;omega
   ·exact h.inv.inj _ _ b hb hj2
  ·rfl
theorem DX{β:gZ}{O:Own}{w:World}:∀{ys:List D}{us:List Value},D.iK O w ys us->AV.iK β O w (ys.map .d) us
 |[],us,h=>by simpa[D.iK,AV.iK]using h
 |y::ys,us,h=>by
  simp only[D.iK]at h;obtain⟨v,r,rfl,_,h2,h3⟩:=h;simp only[aT,AV.iK];exact⟨v,r,rfl,by simpa only[AV.ok]using h2,DX h3⟩
theorem Fv:∀ys:List D,uN (ys.map .d)=true:=fun ys=>by
 simp only[uN,cc];intro x hx;obtain⟨d,_,rfl⟩:=bF.1 hx;rfl
section
variable{P:Program}{C:Ctx}{o:Oper}{env:List AV}{s:gQ}{k:List AV->gQ->Prop}
theorem Ik{β:gZ}{a:Act}{w:World}(hst:St C β env s a w){t u ty e e2 sz by':Nat}{i:TypeInfo}{z:Value}
 (ht:P.underlying t=some (.slice e)) (hu:P.underlying u=some (.slice e2)) (hi:P.info? e=some i) (hz:i.zero=some z) (hsz:i.size=sz) (hb:i.bytes=by') (hb0:0<by')
 (hz1:z.cells.size=i.size) (hz2:∀v∈z.cells.toList,one v=true)
 {j sLen sCap:Nat} {u0:Value} {cs:List AV} {bs:List Nat} {base:Option Addr} {olds:List Value} (hsj:sat s j=.oU sz sLen cs) (hbj:β j=.jj u0 sLen bs)
 (hown0:∀b∈bs,∀o,own β s b o) (hblk0:∀b∈bs,gy β s j b) (hnd:bs.Nodup) (hcl:cs.length=sLen*sz)
 (hlo:olds.length=sLen*sz) (hlo1:∀v∈olds,one v=true)
 (holds:olds=[]\/∃b' o,base=some ⟨b',o,none⟩/\∀j v,olds[j]?=some v->w.cell? ⟨b',o+j,none⟩=some v)
 (hx:oT β (C.gO β s) w cs olds bs)
 {ad:Option Addr} {c m:Nat} {ys:List D} {news:List Value} (hln:news.length=m*sz) (hln1:∀v∈news,one v=true)
 (hnews:news=[]\/∃b o,ad=some ⟨b,o,none⟩/\jW (C.gO β s) w b o news)
 (hys:D.iK (C.gO β s) w ys news)
 (hg:sCap<sLen+m) (hm:0<m) (hbd:(sLen+m)*by'<=2^47):
 ∃v w' β',(Builtin.append_ #[t,u] ty #[.slice base sLen sCap,.slice ad m c]).run P w=.ok v w'/\
  St C β' env (sset s j (.oU sz (sLen+m) (cs++ys.map .d))) a w'/\AV.ok β' (C.gO β' (sset s j (.oU sz (sLen+m) (cs++ys.map .d)))) w' (.mL sz j (sLen+m)) v:=by
 have hneed:sLen+m<=2^47:=bP (cj _ hb0) hbd;have hrun:=qq (P:=P) (w:=w) t u ty e e2 i z ht hu hi hz base sLen sCap olds (by rw[hsz];exact hlo) holds ad m c news (by rw[hsz];exact hln)
  (hnews.imp (fun x=>x) fun⟨b',o',h1,h2⟩=>⟨b',o',h1,fun j v hj=>(h2 j v hj).1⟩) hg gu (by rw[hb];exact eI hg (by simpa using hbd))
 have hcap1:=eK w (sLen+m) sCap e;have hcap2:=dB w (sLen+m) sCap e (by unfold Go.maxLen;omega);have hcell:(olds.toArray++news.toArray++Builtin.zeroCells z.cells (grownCap w (sLen+m) sCap e-(sLen+m))).toList=olds++(news++(Builtin.zeroCells z.cells (grownCap w (sLen+m) sCap e-(sLen+m))).toList):=by simp
 have hst':St C β env s a w.drew:=hst.drew;have m0:∀x v,AV.ok β (C.gO β s) w x v->AV.ok β (C.gO β s) w.drew x v:=fun x v h=>AV.ke (w:=w) (w':=w.drew) (fun _ _ _ hc hn=>⟨hc,hn⟩) (fun _=>.refl _) x v h
 have hyl:=D.iS hys;have hbsz:∀b∈bs,b<w.heap.size:=fun b hb=>hst.inv.qo (hblk0 b hb)
 generalize hA:(olds.toArray++news.toArray++Builtin.zeroCells z.cells (grownCap w (sLen+m) sCap e-(sLen+m)))=A at hrun hcell;have hAsz:A.size=grownCap w (sLen+m) sCap e*sz:=by
  rw[<-hA,cH,cH,d_,hz1,hsz];simp only[cz,hlo,hln];rw[<-bk,<-bk];congr 1;omega
 obtain⟨h1,h2⟩:=hst'.UC (id:=j) (ob:=.oU sz (sLen+m) (cs++ys.map .d)) (p:=.jj (.slice (some ⟨w.heap.size,0,none⟩) (sLen+m) (grownCap w (sLen+m) sCap e)) (sLen+m) bs) (c:=A) (t:=e)
  (by rw[hbj];exact⟨_,_,_,rfl,gu,fun h=>by omega⟩)
  (fun b o ho=>by
   obtain⟨i',ho⟩:=ho;by_cases hi':i'=j
   ·subst hi';simp only[sat,aj,gG]at ho;obtain⟨v',q',p1,p2⟩:=ho;simp only[Place.jj.injEq,cx]at p1;obtain⟨rfl,rfl⟩:=p1;rcases p2 with⟨_,p2,_⟩|p2
    ·simp only[bw,aM,dn]at p2;exact .inl p2.1.1.symm
    ·exact .inr (hown0 b p2 o)
   ·simp[sat,hi']at ho)
  (fun b hb'=>by
   simp only[gy,sat,aj,gG]at hb';obtain⟨v',q',p1,p2⟩:=hb';simp only[Place.jj.injEq,cx]at p1;obtain⟨rfl,rfl⟩:=p1;rcases p2 with⟨_,p2,_⟩|p2
   ·simp only[bw,aM,dn]at p2;exact .inl p2.1.1.symm
   ·exact .inr (hblk0 b p2))
  (fun β' F hok hp=>⟨_,_,hp,fun b hb'=>by
   have ho:=hst.inv.obs j;rw[hsj]at ho;obtain⟨u1,bs1,k1,k0,_⟩:=ho;rw[hbj]at k1;cases k1;rw[b_ (w:=w.drew) (hbsz b hb')];exact k0 b hb',by rw[au,aS,hcl,<-hyl,hln,bk],
   .inr ⟨w.heap.size,_,A,e,rfl,cW (w:=w.drew),hAsz,hcap1,by unfold Go.maxLen at hcap2;omega,fun v hv=>by
    rw[hcell]at hv;simp only[aG]at hv;rcases hv with hv|hv|hv
    ·exact hlo1 v hv
    ·exact hln1 v hv
    ·exact pS hz2 _ v hv,gu,bJ.2 ⟨fun h=>Nat.lt_irrefl _ (hbsz _ h),hnd⟩,by
    rw[hcell];have e1:=oT.imp (f:=fun x=>x) (qb fun x v h=>hok x v (m0 x v h)) (fun b hb=>b_ (w:=w.drew) (o:=.cells A e) (hbsz b hb)) hx;rw[de]at e1;have e3:oT β' F (w.drew.alloc (.cells A e)) (ys.map .d) (news++(Builtin.zeroCells z.cells (grownCap w (sLen+m) sCap e-(sLen+m))).toList) []:=
     uP (Fv _) (zB (fun x v h=>hok x v (m0 x v h)) (DX hys))
    have:=nZ (us:=olds) (by rw[hlo,hcl]) e1 e3;rwa [bh]at this⟩⟩)
 refine⟨_,_,_,hrun,h1,?_⟩;simp only[AV.ok];exact⟨_,sLen+m,by simp[gG,Place.at],aO _,fun _=>rfl,.inr ⟨_,_,rfl,hcap1,by unfold Go.maxLen at hcap2;omega⟩⟩
theorem Q7{β:gZ}{a:Act}{w:World}(hst:St C β env s a w){t u ty e e2 sz by':Nat}{i:TypeInfo}{z:Value}
 (ht:P.underlying t=some (.slice e)) (hu:P.underlying u=some (.slice e2)) (hi:P.info? e=some i) (hz:i.zero=some z) (hsz:i.size=sz) (hb:i.bytes=by') (hb0:0<by')
 (hz1:z.cells.size=i.size) (hz2:∀v∈z.cells.toList,one v=true)
 {j n:Nat} {cs:List AV} (hsj:sat s j=.oU sz n cs) {v:Value} (hx:AV.ok β (C.gO β s) w (.mL sz j n) v)
 {ad:Option Addr} {c m:Nat} {ys:List D} {news:List Value} (hln:news.length=m*sz) (hln1:∀v∈news,one v=true)
 (hnews:news=[]\/∃b o,ad=some ⟨b,o,none⟩/\jW (C.gO β s) w b o news)
 (hys:D.iK (C.gO β s) w ys news) (hbd:(n+m)*by'<=2^47):
 ∃v' w' β',(Builtin.append_ #[t,u] ty #[v,.slice ad m c]).run P w=.ok v' w'/\
  St C β' env (sset s j (.oU sz (n+m) (cs++ys.map .d))) a w'/\AV.ok β' (C.gO β' (sset s j (.oU sz (n+m) (cs++ys.map .d)))) w' (.mL sz j (n+m)) v':=by
 have hob:=hst.inv.obs j;rw[hsj]at hob;obtain⟨u0,bs,hbj,k0,hcl,hg⟩:=hob;have hx0:=hx;simp only[AV.ok]at hx;obtain⟨u1,m1,k1,k2,k3,k4⟩:=hx;rw[hbj]at k1;obtain⟨rfl,rfl⟩:=k1;have:=k3 rfl;subst this;have hyl:=D.iS hys;rcases hg with⟨⟨a0,rfl⟩,rfl,rfl⟩|⟨g,cap,vs,t1,rfl,hh,h3,h4,h5,h6,hc0,hnd,hnx⟩
 ·have hcs:cs=[]:=bp.1 (by simpa using hcl);subst hcs;by_cases hm:m=0
  ·subst hm;have hn0:news=[]:=bp.1 (by simpa using hln);subst hn0;have hy0:ys=[]:=bp.1 (by simpa using hyl.symm);subst hy0;have hsame:∀q,sat (sset s j (.oU sz (0+0) (([]:List AV)++([]:List D).map .d))) q=sat s q:=by
    intro q;rw[iE];split
    ·rename_i hq;subst hq;rw[hsj];simp
    ·rfl
   have hown:∀b o,own β (sset s j (.oU sz (0+0) (([]:List AV)++([]:List D).map .d))) b o<->own β s b o:=by intro b o;unfold own;simp only[hsame]
   refine⟨_,w,β,yT (P:=P) (w:=w) t u ty e e2 i ht hu hi a0 ad 0 c,hst.same hsame,?_⟩;simp only[AV.ok]at hx0⊢;exact hx0
  ·exact Ik (P:=P) hst (ty:=ty) ht hu hi hz hsz hb hb0 hz1 hz2 (sLen:=0) (sCap:=0) (base:=a0) (olds:=[]) hsj hbj (by simp) (by simp) .nil (by simp) (by simp) (by simp) (.inl rfl) (by simp[oT])
    hln hln1 hnews hys (c:=c) gu gu hbd
 ·have hbl:gy β s j g:=by unfold gy;rw[hsj];exact⟨_,_,hbj,.inl ⟨cap,rfl,hc0⟩⟩
  have hbb:∀b∈bs,gy β s j b:=fun b hb=>by unfold gy;rw[hsj];exact⟨_,_,hbj,.inr hb⟩
  have hbo:∀b∈bs,∀o,own β s b o:=fun b hb o=>⟨j,by rw[hsj];exact⟨_,_,hbj,.inr hb⟩⟩
  have hgo:∀o,own β s g o:=fun o=>⟨j,by rw[hsj];exact⟨_,_,hbj,.inl ⟨cap,rfl,hc0⟩⟩⟩
  have hnd2:=bJ.1 hnd;have hxl:=yo hnx;have hfit0:n*sz<=vs.size:=by rw[h3];exact bG _ h4
  by_cases hroom:n+m<=cap
  ·have hfit:n*sz+news.length<=vs.size:=by
    rw[h3,hln,<-bk];exact bG _ hroom
   have hrun:=r_ (P:=P) (w:=w) t u ty e e2 i ht hu hi g n cap vs t1 hh ad m c news (by rw[hsz];exact hln)
    (hnews.imp (fun x=>x) fun⟨b',o',q1,q2⟩=>⟨b',o',q1,fun j v hj=>(q2 j v hj).1⟩) hln1 hroom (by rw[hsz];exact hfit)
   rw[hsz]at hrun;generalize hA:(vs.toList.take (n*sz)++news++vs.toList.drop (n*sz+news.length)).toArray=A at hrun;have hh':=dS w g vs A t1 (0,0) hh;have hOth:∀b',b'≠g->(w.setRow g A).heap[b']?=w.heap[b']?:=fun b' hb'=>dZ w g b' _ (fun e=>hb' e)
   have hgb:∀b∈bs,b≠g:=fun b hb e=>hnd2.1 (e▸hb)
   obtain⟨hst',_⟩:=hst.Ql (id:=j) (b:=g) (ob:=.oU sz (n+m) (cs++ys.map .d)) (p:=.jj (.slice (some ⟨g,0,none⟩) (n+m) cap) (n+m) bs)
    (w':=w.setRow g A) hbl (by simp) (by simp[EL]) hOth
    (fun q v hcell hn=>absurd (hgo q) hn)
    (fun b' q hown=>by
     obtain⟨i',hown⟩:=hown;by_cases hi':i'=j
     ·subst hi';simp only[sat,aj,gG]at hown;obtain⟨v',q',p1,p2⟩:=hown;simp only[Place.jj.injEq,cx]at p1;obtain⟨rfl,rfl⟩:=p1;rcases p2 with⟨_,p2,_⟩|p2
      ·simp only[bw,aM,dn]at p2;rw[<-p2.1.1];exact hgo q
      ·exact hbo _ p2 q
     ·simp[sat,hi']at hown)
    (fun b' hb'=>by
     simp only[gy,sat,aj,gG]at hb';obtain⟨v',q',p1,p2⟩:=hb';simp only[Place.jj.injEq,cx]at p1;obtain⟨rfl,rfl⟩:=p1;rcases p2 with⟨_,p2,_⟩|p2
     ·simp only[bw,aM,dn]at p2;rw[<-p2.1.1];exact hbl
     ·exact hbb _ p2)
    (by rw[hbj];exact⟨_,_,_,rfl,gu,fun h=>by
     have h0:m=0:=gu;subst h0;rfl⟩)
    (fun β' F hok hp=>⟨_,_,hp,fun b hb=>by rw[hOth b (hgb b hb)];exact k0 b hb,by rw[au,aS,hcl,<-hyl,hln,bk],
     .inr ⟨g,cap,A,t1,rfl,hh',by
      rw[<-hA];simp only[cz,au,aU,bX,Array.length_toList];omega,hroom,h5,fun v hv=>by
       rw[<-hA]at hv;simp only[aG]at hv;rcases hv with(hv|hv)|hv
       ·exact h6 v (bg hv)
       ·exact hln1 v hv
       ·exact h6 v (bO hv),hc0,hnd,by
      rw[show A.toList=vs.toList.take (n*sz)++news++vs.toList.drop (n*sz+news.length) by rw[<-hA]];have e1:=oT.imp (f:=fun x=>x) (qb hok) (fun b hb=>hOth b (hgb b hb)) hnx;rw[de]at e1;have e2:=rD (vs:=vs.toList.take (n*sz)) e1 (by rw[hcl,dx,dN]);have e3:oT β' F (w.setRow g A) (ys.map .d) (news++vs.toList.drop (n*sz+news.length)) []:=
       uP (Fv _) (zB hok (DX hys))
      have:=nZ (us:=vs.toList.take (n*sz)) (by rw[aU,Array.length_toList,hcl];omega) e2 e3;rw[bh]at this;simpa[aI]using this⟩⟩)
   refine⟨_,_,_,hrun,hst',?_⟩;simp only[AV.ok];exact⟨_,n+m,by simp[gG,Place.at],aO _,fun _=>rfl,.inr ⟨_,_,rfl,hroom,h5⟩⟩
  ·have hlt:(vs.toList.take (n*sz)).length=n*sz:=by rw[aU,Array.length_toList];omega
   exact Ik (P:=P) hst (ty:=ty) ht hu hi hz hsz hb hb0 hz1 hz2 (sLen:=n) (sCap:=cap) (base:=some ⟨g,0,none⟩) (olds:=vs.toList.take (n*sz)) hsj hbj hbo hbb hnd2.2 hcl hlt
    (fun v hv=>h6 v (bg hv))
    (.inr ⟨g,0,rfl,fun q v hq=>by
     have hq1:q<n*sz:=by have:=(aN.1 hq).1;omega
     rw[bL,aE hq1]at hq;simp only[World.cell?,hh,bR,ah,ay,cy];simpa using hq⟩)
    (rD hnx (by rw[hcl,dx,dN]))
    hln hln1 hnews hys (c:=c) gu gu hbd
end
section
variable{P:Program}{C:Ctx}{o:Oper}{env:List AV}{s:gQ}{k:List AV->gQ->Prop}
theorem TY{c:Call}{d:Nat}(hop:o.op=.call c)(hc:c.callee=.builtin .append){x y:Operand}(ha:c.args=#[x,y]){t u:Nat}
 (hat:c.argTypes[0]?=some t) (hau:c.argTypes[1]?=some u) {e e2:Nat} (ht:P.underlying t=some (.slice e)) (hu:P.underlying u=some (.slice e2))
 {sz by':Nat} (hsz:kZ P e=some sz) (hby:xD P e=some by') {z:List D} (hz:sL P e=some z) (hsz0:0<sz) (hb0:0<by')
 (hk:LR d e sz by' C.k (ev env x) (ev env y) env s fun x env s=>k (iU o.dst env x) s):mU P C o env s k:=by
 refine .value fun β a w hst=>?_
 obtain⟨i,zv,hi,hzv,hz1,hz2,_⟩:=nE hz;have hisz:i.size=sz:=by obtain⟨i',h1,h2⟩:=kT hsz;rw[hi]at h1;cases h1;exact h2
 have hib:i.bytes=by':=by obtain⟨i',h1,h2⟩:=tN hby;rw[hi]at h1;cases h1;exact h2
 have hexec:∀v w',(Builtin.append_ #[t,u] o.type #[a.eval x,a.eval y]).run P w=.ok v w'->(execOp a.eval o).run P w=.ok (.value v) w':=by
  intro v w' hr;have hargs:c.argTypes[0]?=some t/\c.argTypes[1]?=some u:=⟨hat,hau⟩;have:∀w,(Builtin.append_ c.argTypes o.type #[a.eval x,a.eval y]).run P w=(Builtin.append_ #[t,u] o.type #[a.eval x,a.eval y]).run P w:=by
   intro w;unfold Builtin.append_;simp[hat,hau]
  simp[execOp,hop,resolve,hc,ha,invoke,builtin,this,hr]
 unfold LR at hk;split at hk
 ·exact hk.elim
 ·rename_i e3 ys hys;obtain⟨he3,hk⟩:=hk;obtain⟨ad,cap,news,hyv,hln,hln1,hnews,hrowY⟩:=FG (e:=sz) (hst.ev y) hys he3;have hx:=hst.ev x;split at hk
  ·rename_i e' j xs hxe;obtain⟨rfl,hsj,hbd,hk⟩:=hk;rw[hxe]at hx;simp only[AV.ok]at hx;obtain⟨hxd,uv,n,hbj,hle,heq⟩:=hx;have ho:=hst.inv.obs j;rw[hsj]at ho;obtain⟨u2,hb2,htok⟩:=ho;rw[hb2]at hbj;obtain⟨rfl,rfl⟩:=hbj;have hbj:=hb2;have hxv:a.eval x=u2:=heq rfl;obtain⟨ax,capx,hxa,hcx,_,hrx⟩:=hxd;rw[hxv]at hxa;rcases htok with⟨h1,h2⟩|⟨g,capg,vs,h1,h2,h3,h4,h5,h6⟩
   ·-- nil
    have hxs:xs=[]:=bp.1 h2;subst hxs;by_cases hy0:ys=[]
    ·subst hy0;have hrun:=vS (P:=P) (w:=w) t u o.type e e2 i ht hu hi ad cap;have hs':sset s j (.tok e e' ([]:List D).length)=sset s j (.tok e e' (([]:List D).length+([]:List D).length)):=by simp
     refine⟨_,w,β,env,sset s j (.tok e e' (([]:List D).length+([]:List D).length)),_,hexec _ _ (by rw[hxv,h1,hyv];exact hrun),?_,?_,hk⟩
     ·have hsame:∀q,sat (sset s j (.tok e e' (([]:List D).length+([]:List D).length))) q=sat s q:=by
       intro q;rw[iE];split
       ·rename_i hq;subst hq;rw[hsj];simp
       ·rfl
      have hown:∀b o,own β (sset s j (.tok e e' (([]:List D).length+([]:List D).length))) b o<->own β s b o:=by intro b o;unfold own;simp only[hsame]
      have hblk:∀q b,gy β (sset s j (.tok e e' (([]:List D).length+([]:List D).length))) q b<->gy β s q b:=by intro q b;unfold gy;simp only[hsame]
      have m:mu β s w β (sset s j (.tok e e' (([]:List D).length+([]:List D).length))) w:=
       ⟨aO _,rfl,fun _ _ _ h _=>h,fun _ _ _=>rfl,fun b o h=>.inl ((hown b o).1 h),fun q b h=>.inl ⟨q,(hblk q b).1 h⟩,fun _=>.refl _⟩
      exact hst.move m (fun q=>by rw[hsame];exact(hst.inv.obs q).sJ m rfl (fun _ _=>rfl) rfl) (fun p q b hp hq=>hst.inv.inj p q b ((hblk p b).1 hp) ((hblk q b).1 hq))
     ·simp only[AV.ok,D.ok];exact⟨⟨none,0,rfl,⟨aO _,gu⟩,trivial,.inl rfl⟩,_,_,by rw[hbj];exact⟨rfl,rfl⟩,aO _,fun _=>h1.symm⟩
    ·have hpos:0<ys.length:=bT.2 hy0;obtain⟨v,w',β',hrun,hst',hok⟩:=Df (P:=P) hst (ty:=o.type) ht hu hi hzv hisz hib hb0 hz1 hz2 (base:=none) (sLen:=0) (sCap:=0) (xs:=[]) rfl (olds:=[]) (by simp) (by simp) (.inl rfl)
      (fun _ _ _ _ _ _=>by simp[D.row]) hln hln1 hnews hrowY (c:=cap) gu (by simpa using hbd) (id:=j)
      (by rw[hbj];exact⟨_,_,rfl,by simp,fun h=>by simp at h;omega⟩)
     refine⟨v,w',β',env,_,_,hexec _ _ (by rw[hxv,h1,hyv];exact hrun),?_,?_,hk⟩
     ·simpa using hst'
     ·simpa using hok
   ·by_cases hroom:xs.length+ys.length<=capg
    ·-- room
     have hfit:xs.length*e'+news.length<=vs.size:=by
      rw[h3,hln,<-bk];exact bG _ hroom
     have hrun:=r_ (P:=P) (w:=w) t u o.type e e2 i ht hu hi g xs.length capg vs e h2 ad ys.length cap news (by rw[hisz];exact hln)
      (hnews.imp (fun x=>x) fun⟨b',o',q1,q2⟩=>⟨b',o',q1,fun j v hj=>(q2 j v hj).1⟩) hln1 hroom (by rw[hisz];exact hfit)
     rw[hisz]at hrun;have hbl:gy β s j g:=by unfold gy;rw[hsj];exact⟨capg,by rw[hbj,h1]⟩
     obtain⟨hst',m⟩:=hst.Vt (id:=j) (b:=g) (ob:=.tok e e' (xs.length+ys.length))
      (p:=.tok (.slice (some ⟨g,0,none⟩) (xs.length+ys.length) capg) (xs.length+ys.length))
      (w':=w.setRow g (vs.toList.take (xs.length*e')++news++vs.toList.drop (xs.length*e'+news.length)).toArray)
      hbl (by simp) (by simp[EL]) (fun b' hb'=>dZ w g b' _ (fun e=>hb' e))
      (fun q v hcell hn=>by
       have hq:q<xs.length*e':=by
        rcases cG q (xs.length*e')with hlt|hge
        ·exact hlt
        ·exact absurd ⟨j,by rw[hsj];exact⟨capg,by rw[hbj,h1],hge⟩⟩ hn
       have hh':=dS w g vs (vs.toList.take (xs.length*e')++news++vs.toList.drop (xs.length*e'+news.length)).toArray e (0,0) h2;simp only[World.cell?,h2,bR,ah,ay]at hcell;simp only[World.cell?,hh',bR,ah,ay];rw[<-hcell];have hq2:q<(vs.toList.take (xs.length*e')).length:=by simp;omega
       simp only[List.getElem?_toArray];rw[aI,aZ hq2,bL,aE hq];simp)
      (fun b' q hown=>by
       obtain⟨i',hown⟩:=hown;by_cases hi':i'=j
       ·subst hi';simp only[sat,aj,gG]at hown;obtain⟨cap',q1,q2⟩:=hown;simp at q1;obtain⟨rfl,_⟩:=q1;refine⟨i',?_⟩;rw[hsj];refine⟨capg,by rw[hbj,h1],bP (bG _ (ei _ _)) q2⟩
       ·simp[sat,hi']at hown)
      (fun b' hb'=>by
       simp only[gy,sat,aj,gG]at hb';obtain⟨_,hb'⟩:=hb';simp at hb';exact hb'.1.symm)
      (by
       rw[hbj];refine⟨_,_,rfl,gu,fun hh=>?_⟩;have:ys.length=0:=by omega
       rw[h1,this];rfl)
      (fun β' F _ _ hp=>⟨_,hp,.inr ⟨g,capg,_,rfl,dS w g vs _ e (0,0) h2,by
       simp only[cz,au,aU,bX,Array.length_toList];omega,hroom,h5,fun v hv=>by
        simp only[aG]at hv;rcases hv with(hv|hv)|hv
        ·exact h6 v (bg hv)
        ·exact hln1 v hv
        ·exact h6 v (bO hv)⟩⟩)
     refine⟨_,_,_,env,_,_,hexec _ _ (by rw[hxv,h1,hyv];exact hrun),hst',?_,hk⟩;simp only[AV.ok,D.ok];refine⟨⟨_,capg,by rw[au],by rw[au];exact⟨hroom,h5⟩,trivial,.inr ⟨g,0,rfl,?_⟩⟩,_,xs.length+ys.length,by simp[gG,Place.at],by simp,fun _=>rfl⟩;have hh':=dS w g vs (vs.toList.take (xs.length*e')++news++vs.toList.drop (xs.length*e'+news.length)).toArray e (0,0) h2;have hforb:∀q,q<(xs.length+ys.length)*e'->¬C.gO (gG β j (.tok (.slice (some ⟨g,0,none⟩) (xs.length+ys.length) capg) (xs.length+ys.length))) (sset s j (.tok e e' (xs.length+ys.length))) g q:=by
      intro q hq hf;rcases hf with hf|hf
      ·-- the outer memory:g is not below,or it is owned
       have h7:=hst.inv.low _ _ hf;by_cases hq1:q<xs.length*e'
       ·rcases hrx with hrx|⟨b',o',q2,q3⟩
        ·subst hrx;simp at hq1
        ·obtain⟨us,k1,k2,_⟩:=wN q3;rw[h1]at hxa;simp only[bw]at hxa;rw[<-hxa.1]at q2;cases q2;have hlt:q<us.length:=by omega
         have:=(k2 q _ (aA hlt)).2.1;exact this (.inl (by simpa using hf))
       ·rcases hst.inv.sK g q ⟨j,by rw[hsj];exact⟨capg,by rw[hbj,h1],gu⟩⟩with h8|h8
        ·exact h7.2 h8
        ·omega
      ·rcases Ii hf with⟨i',hi',hf⟩|hf
       ·exact hi' (hst.inv.inj i' j g hf hbl)
       ·obtain⟨i',hf⟩:=hf;by_cases hi':i'=j
        ·subst hi';simp only[sat,aj,gG]at hf;obtain⟨_,_,hf⟩:=hf;omega
        ·simp[sat,hi']at hf
     have hXcells:D.row (C.gO (gG β j (.tok (.slice (some ⟨g,0,none⟩) (xs.length+ys.length) capg) (xs.length+ys.length))) (sset s j (.tok e e' (xs.length+ys.length))))
      (w.setRow g (vs.toList.take (xs.length*e')++news++vs.toList.drop (xs.length*e'+news.length)).toArray) g 0 e' xs:=by
      rcases hrx with hrx|⟨b',o',q2,q3⟩
      ·subst hrx;simp[D.row]
      ·rw[h1]at hxa;simp only[bw]at hxa;rw[<-hxa.1]at q2;cases q2;exact D.wO m.stays _ _ _ _ q3
     refine uX hXcells (hrowY _ _ _ _ m.stays ?_);refine u_ hh' (fun q v hq=>?_) (fun q hq=>hforb _ ?_) hln1
     ·have hq2:q<news.length:=(aN.1 hq).1;have hlen:(vs.toList.take (xs.length*e')).length=xs.length*e':=by simp;omega
      simp only[cy];rw[aI,bN gu,hlen,dy,aZ hq2];exact hq
     ·rw[bk];omega
    ·-- no room
     have hrowX:∃olds:List Value,olds.length=xs.length*e'/\(∀v∈olds,one v=true)/\(olds=[]\/∃b' o,(some ⟨g,0,none⟩:Option Addr)=some ⟨b',o,none⟩/\jW (C.gO β s) w b' o olds)/\
      ∀(O':Own)(w':World)(b' o':Nat),(∀b o v,w.cell? ⟨b,o,none⟩=some v->¬C.gO β s b o->w'.cell? ⟨b,o,none⟩=some v/\¬O' b o)->
       jW O' w' b' o' olds->D.row O' w' b' o' e' xs:=by
      rcases hrx with hrx|⟨b',o',q2,q3⟩
      ·subst hrx;exact⟨[],by simp,by simp,.inl rfl,fun _ _ _ _ _ _=>by simp[D.row]⟩
      ·rw[h1]at hxa;simp only[bw]at hxa;rw[<-hxa.1]at q2;obtain⟨us,k1,k2,k3⟩:=wN q3;exact⟨us,k1,k2.one,.inr ⟨b',o',q2,k2⟩,k3⟩
     obtain⟨olds,o1,o2,o3,o4⟩:=hrowX;obtain⟨v,w',β',hrun,hst',hok⟩:=Df (P:=P) hst (ty:=o.type) ht hu hi hzv hisz hib hb0 hz1 hz2 (base:=some ⟨g,0,none⟩) (sLen:=xs.length) (sCap:=capg) (xs:=xs) rfl (olds:=olds) o1 o2 o3 o4
      hln hln1 hnews hrowY (c:=cap) gu hbd (id:=j)
      (by rw[hbj];exact⟨_,_,rfl,gu,fun h=>by omega⟩)
     exact⟨v,w',β',env,_,_,hexec _ _ (by rw[hxv,h1,hyv];exact hrun),hst',hok,hk⟩
  ·rename_i e' j n hxe;obtain⟨rfl,hk⟩:=hk;split at hk
   ·rename_i t' e2' m' cs hsj;obtain⟨rfl,rfl,rfl,hbd,hk⟩:=hk;rw[hxe]at hx;obtain⟨ad',cap',news',hyv',hln',hln1',hnews',hys'⟩:=D9 (e:=e2') (hst.ev y) hys he3;obtain⟨v,w',β',hrun,hst',hok⟩:=Q5 (P:=P) hst (ty:=o.type) ht hu hi hzv hisz hib hb0 hz1 hz2 hsj hx (c:=cap') hln' hln1' hnews' hys' hbd;exact⟨v,w',β',env,_,_,hexec _ _ (by rw[hyv'];exact hrun),hst',hok,hk⟩
   ·rename_i e2' m' cs hsj;obtain⟨rfl,rfl,hbd,hk⟩:=hk;rw[hxe]at hx;obtain⟨ad',cap',news',hyv',hln',hln1',hnews',hys'⟩:=D9 (e:=e2') (hst.ev y) hys he3;obtain⟨v,w',β',hrun,hst',hok⟩:=Q7 (P:=P) hst (ty:=o.type) ht hu hi hzv hisz hib hb0 hz1 hz2 hsj hx (c:=cap') hln' hln1' hnews' hys' hbd;exact⟨v,w',β',env,_,_,hexec _ _ (by rw[hyv'];exact hrun),hst',hok,hk⟩
   ·exact hk.elim
  ·rename_i e4 hxe;obtain⟨hbd,hk⟩:=hk;rw[hxe]at hx;simp only[AV.ok,D.ok]at hx;obtain⟨ax,capx,hxv,_,hnl,_⟩:=hx;obtain⟨rfl,rfl⟩:=hnl;simp only[bB]at hxv;obtain⟨β1,env1,s1,f,hst1,hd1,hk1,_,hf⟩:=pQ hk hst;by_cases hy0:ys=[]
   ·subst hy0;have hrun:=vS (P:=P) (w:=w) t u o.type e e2 i ht hu hi ad cap;obtain⟨β',hst',hok⟩:=Ka hst1 (id:=d) e sz hd1;exact⟨_,w,β',env1,_,_,hexec _ _ (by rw[hxv,hyv];exact hrun),hst',hok,hk1⟩
   ·have hpos:0<ys.length:=bT.2 hy0;have hno:β1 d=.no:=by have:=hst1.inv.obs d;rw[hd1]at this;exact this
    obtain⟨v,w',β',hrun,hst',hok⟩:=Df (P:=P) hst1 (ty:=o.type) ht hu hi hzv hisz hib hb0 hz1 hz2 (base:=none) (sLen:=0) (sCap:=0) (xs:=[]) rfl (olds:=[]) (by simp) (by simp) (.inl rfl)
     (fun _ _ _ _ _ _=>by simp[D.row]) hln hln1
     (hnews.imp (fun x=>x) fun⟨b',o',q1,q2⟩=>⟨b',o',q1,q2.mono fun b o v hc hn=>⟨hc,fun h=>hn (hf b o h)⟩⟩)
     (fun O' w' b' o' hm hc=>hrowY O' w' b' o' (fun b o v q1 q2=>hm b o v q1 fun h=>q2 (hf b o h)) hc) (c:=cap) gu (by simpa using hbd) (id:=d)
     (by rw[hno];trivial)
    refine⟨v,w',β',env1,_,_,hexec _ _ (by rw[hxv,hyv];exact hrun),?_,?_,hk1⟩
    ·simpa using hst'
    ·simpa using hok
  ·rename_i e' xs hxe;obtain⟨rfl,hbd,hk⟩:=hk;rw[hxe]at hx;simp only[AV.ok]at hx;obtain⟨ax,hxv,hxd⟩:=hx;by_cases hy0:ys=[]
   ·subst hy0;have hrun:=yT (P:=P) (w:=w) t u o.type e e2 i ht hu hi ax ad xs.length cap;exact⟨_,w,β,env,s,_,hexec _ _ (by rw[hxv,hyv];exact hrun),hst,by simp only[AV.ok,bh];rw[<-hxv];exact hxd,hk⟩
   ·have hpos:0<ys.length:=bT.2 hy0;simp only[D.ok]at hxd;obtain⟨a2,cap2,q1,_,_,hrx⟩:=hxd;rw[hxv]at q1;cases q1;have hrowX:∃olds:List Value,olds.length=xs.length*e'/\(∀v∈olds,one v=true)/\(olds=[]\/∃b' o,ax=some ⟨b',o,none⟩/\jW (C.gO β s) w b' o olds)/\
     ∀(O':Own)(w':World)(b' o':Nat),(∀b o v,w.cell? ⟨b,o,none⟩=some v->¬C.gO β s b o->w'.cell? ⟨b,o,none⟩=some v/\¬O' b o)->
      jW O' w' b' o' olds->D.row O' w' b' o' e' xs:=by
     rcases hrx with hrx|⟨b',o',q2,q3⟩
     ·subst hrx;exact⟨[],by simp,by simp,.inl rfl,fun _ _ _ _ _ _=>by simp[D.row]⟩
     ·obtain⟨us,k1,k2,k3⟩:=wN q3;exact⟨us,k1,k2.one,.inr ⟨b',o',q2,k2⟩,k3⟩
    obtain⟨olds,o1,o2,o3,o4⟩:=hrowX;obtain⟨v,w',hrun,hst',hok⟩:=NK (P:=P) hst (ty:=o.type) ht hu hi hzv hisz hib hb0 hz2 (base:=ax) (sLen:=xs.length) (sCap:=xs.length) (xs:=xs) rfl (olds:=olds) o1 o2 o3 o4
     hln hln1 hnews hrowY (c:=cap) gu hbd
    exact⟨v,w',β,env,s,_,hexec _ _ (by rw[hxv,hyv];exact hrun),hst',by simpa only[AV.ok]using hok,hk⟩
  ·exact hk.elim
theorem U5{c:Call}{d:Nat}(hop:o.op=.call c)(hc:c.callee=.builtin .append){x y:Operand}(ha:c.args=#[x,y]){t u:Nat}
 (hat:c.argTypes[0]?=some t) (hau:c.argTypes[1]?=some u) {e e2:Nat} (ht:P.underlying t=some (.slice e)) (hu:P.underlying u=some (.slice e2))
 {sz by':Nat} (hsz:kZ P e=some sz) (hby:xD P e=some by') {z:List D} (hz:sL P e=some z) (hsz0:0<sz) (hb0:0<by')
 (hk:Ho d e sz by' C.k (ev env x) (ev env y) env s fun x env s=>k (iU o.dst env x) s):mU P C o env s k:=by
 intro hnd Q β a w hst;unfold Ho at hk;split at hk
 case h_2=>exact TY hop hc ha hat hau ht hu hsz hby hz hsz0 hb0 hk hnd Q β a w hst
 rename_i e2' ys e4 hys hxe;revert hnd Q β a w;show mU P C o env s k;refine .value fun β a w hst=>?_
 obtain⟨i,zv,hi,hzv,hz1,hz2,_⟩:=nE hz;have hisz:i.size=sz:=by obtain⟨i',h1,h2⟩:=kT hsz;rw[hi]at h1;cases h1;exact h2
 have hib:i.bytes=by':=by obtain⟨i',h1,h2⟩:=tN hby;rw[hi]at h1;cases h1;exact h2
 have hexec:∀v w',(Builtin.append_ #[t,u] o.type #[a.eval x,a.eval y]).run P w=.ok v w'->(execOp a.eval o).run P w=.ok (.value v) w':=by
  intro v w' hr;have hargs:c.argTypes[0]?=some t/\c.argTypes[1]?=some u:=⟨hat,hau⟩;have:∀w,(Builtin.append_ c.argTypes o.type #[a.eval x,a.eval y]).run P w=(Builtin.append_ #[t,u] o.type #[a.eval x,a.eval y]).run P w:=by
   intro w;unfold Builtin.append_;simp[hat,hau]
  simp[execOp,hop,resolve,hc,ha,invoke,builtin,this,hr]
 obtain⟨he3,hbd,hk⟩:=hk;obtain⟨ad,cap,news,hyv,hln,hln1,hnews,hoks⟩:=D9 (e:=sz) (hst.ev y) hys he3;have hx:=hst.ev x;rw[hxe]at hx;simp only[AV.ok,D.ok]at hx;obtain⟨ax,capx,hxv,_,hnl,_⟩:=hx;obtain⟨rfl,rfl⟩:=hnl;simp only[bB]at hxv;obtain⟨β1,env1,s1,f,hst1,hd1,hk1,_,hf⟩:=pQ hk hst;have hmo:∀b o v,w.cell? ⟨b,o,none⟩=some v->¬C.gO β s b o->w.cell? ⟨b,o,none⟩=some v/\¬C.gO β1 s1 b o:=fun b o v hc hn=>⟨hc,fun h=>hn (hf b o h)⟩
 by_cases hy0:ys=[]
 ·subst hy0;have hrun:=vS (P:=P) (w:=w) t u o.type e e2 i ht hu hi ad cap;obtain⟨β',hst',hok⟩:=JJ hst1 (id:=d) e sz hd1;exact⟨_,w,β',env1,_,_,hexec _ _ (by rw[hxv,hyv];exact hrun),hst',hok,hk1⟩
 ·have hpos:0<ys.length:=bT.2 hy0;have hno:β1 d=.no:=by have:=hst1.inv.obs d;rw[hd1]at this;exact this
  obtain⟨v,w',β',hrun,hst',hok⟩:=DF (P:=P) hst1 (ty:=o.type) ht hu hi hzv hisz hib hb0 hz1 hz2 (base:=none) (sLen:=0) (sCap:=0) (cs:=[]) (olds:=[]) (by simp) (by simp) (.inl rfl) (by simp[D.iK])
   hln hln1 (hnews.imp (fun x=>x) fun⟨b',o',q1,q2⟩=>⟨b',o',q1,q2.mono hmo⟩) (D.kj hmo _ _ hoks) (c:=cap) gu (by simpa using hbd) (id:=d)
   (by rw[hno];trivial)
  refine⟨v,w',β',env1,_,_,hexec _ _ (by rw[hxv,hyv];exact hrun),?_,?_,hk1⟩
  ·simpa using hst'
  ·simpa using hok
end
section
variable{P:Program}{C:Ctx}{o:Oper}{env:List AV}{s:gQ}{k:List AV->gQ->Prop}
theorem SE{t n:Nat}{p x:Operand}(hop:o.op=.store t p x)(hn:kZ P t=some n)
 (hk:GK n (ev env p) (ev env x) s fun s=>k (iU o.dst env .iN) s):mU P C o env s k:=by
 refine .skip fun β a w hst=>?_
 obtain⟨i,hi,hin⟩:∃i,P.info? t=some i/\i.size=n:=by
  unfold kZ at hn;cases hq:P.info? t with
  |none=>simp[hq]at hn
  |some i=>exact⟨i,rfl,by simpa[hq]using hn⟩
 have hp:=hst.ev p;unfold GK at hk;split at hk
 ·rename_i id off hpe;rw[hpe]at hp;simp only[AV.ok]at hp;obtain⟨b,hb,hv⟩:=hp;have ho:=hst.inv.obs id;split at hk
  ·rename_i t' cs hs;split at hk
   ·rename_i xs hxs;obtain⟨hl1,hl2,hk⟩:=hk;obtain⟨hx1,hx2⟩:=vz (hst.ev x) hxs;rw[hs]at ho;obtain⟨b',vs,hb',hh,h1,h2⟩:=ho;rw[hb]at hb';cases hb';obtain⟨pre,rest,hvs,h2⟩:=h2;have hl:=AV.iS h2;have hlv2:off+n<=vs.size:=by have:=bW List.length hvs;simp at this;omega
    have hlx:=AV.iS hx1;have hlv:(a.eval x).cells.size=n:=by rw[<-hl1,<-hlx];simp
    have hrun:=eL P b off t' (a.eval x).cells.toList 0 vs w hh (by simp;omega) (fun v hv=>xA (hx2 v hv));simp only[cP,Array.length_toList,hlv]at hrun;refine⟨_,β,env,_,?_,hst.Qe (cs':=cs.take off++xs++cs.drop (off+n)) (vs':=(vs.toList.take off++(a.eval x).cells.toList++vs.toList.drop (off+n)).toArray) hs hb hh ?_ ?_,hk⟩
    ·simp[execOp,hop,Instr.storeAt,hv,Instr.sureAddr,storeVar,Go.sizeOf,typeInfo,hi,hin,hlv,hrun]
    ·intro v hv';simp only[aG]at hv';rcases hv' with(hv'|hv')|hv'
     ·exact h1 v (bg hv')
     ·exact hx2 v hv'
     ·exact h1 v (bO hv')
    ·refine⟨pre.take off++(a.eval x).cells.toList++pre.drop (off+n),rest,?_,pR (pR (x_ off h2) hx1) (Bn _ h2)⟩;simp only[hvs];rw[cU gu,cV gu];simp
   ·exact hk.elim
  ·exact hk.elim
 ·rename_i id kk off hpe;rw[hpe]at hp;split at hk
  ·rename_i t' e' m cs hs;split at hk
   ·rename_i d hd;obtain⟨rfl,hl1,hl2,hk⟩:=hk;have hx:=zK (Dy (hst.ev x) hd);simp only[AV.ok]at hp;obtain⟨u,m',b,off',hb,_,hv,hpt⟩:=hp;have ho:=hst.inv.obs id;rw[hs]at ho;obtain⟨u',hb',hcl,hg⟩:=ho;rw[hb']at hb;obtain⟨rfl,rfl⟩:=hb;obtain⟨cap,hu,had⟩:=hpt rfl;subst had;rcases hg with⟨hg,_⟩|⟨b',cap',vs,hg,hh,h3,h4,h5,h1,pre,rest,hvs,h2⟩
    ·rw[hg]at hu;cases hu
    ·rw[hu]at hg;cases hg;have hl:=D.iS h2;have hlx:=D.iS hx;have hlv:(a.eval x).cells.size=n:=by rw[<-hl1,<-hlx];simp
     have hx2:∀v∈(a.eval x).cells.toList,one v=true:=fun v hv=>by
      obtain⟨q,hq⟩:=cC hv;have hlt:q<(gD d).length:=by rw[<-hlx];exact(aN.1 hq).1
      exact((D.kM.1 hx).2 q _ v (aA hlt) hq).1
     have hlv2:off'+n<=vs.size:=by have:=bW List.length hvs;simp at this;omega
     have hrun:=eL P b off' t' (a.eval x).cells.toList 0 vs w hh (by simp;omega) (fun v hv=>xA (hx2 v hv));simp only[cP,Array.length_toList,hlv]at hrun;obtain⟨β',h9,_⟩:=HP hst (n':=m) (cs':=cs.take off'++gD d++cs.drop (off'+n)) (vs':=(vs.toList.take off'++(a.eval x).cells.toList++vs.toList.drop (off'+n)).toArray)
      (pre:=pre.take off'++(a.eval x).cells.toList++pre.drop (off'+n)) (rest:=rest) hs (by rw[hb',hu]) hh (aO _)
      (by simp only[cz,au,aU,bX,Array.length_toList,hlv];omega) h4 h5
      (by
       intro v hv';simp only[aG]at hv';rcases hv' with(hv'|hv')|hv'
       ·exact h1 v (bg hv')
       ·exact hx2 v hv'
       ·exact h1 v (bO hv'))
      (by simp only[au,aU,bX];omega)
      (by
       simp only[hvs];rw[cU gu,cV gu];simp)
      (tO (tO (BO off' h2) hx) (zL _ h2))
     refine⟨_,β',env,_,?_,h9,hk⟩;simp[execOp,hop,Instr.storeAt,hv,Instr.sureAddr,storeVar,Go.sizeOf,typeInfo,hi,hin,hlv,hrun]
   ·exact hk.elim
  ·rename_i e' m cs hs;split at hk
   ·rename_i xs hxs;obtain⟨rfl,hl1,hn0,hl2,hnd,hk⟩:=hk;obtain⟨hx1,hx2⟩:=vz (hst.ev x) hxs;simp only[AV.ok]at hp;obtain⟨u,m',b,off',hb,_,hv,hpt⟩:=hp;have ho:=hst.inv.obs id;rw[hs]at ho;obtain⟨u',bs,hb',h0,hcl,hg⟩:=ho;rw[hb']at hb;obtain⟨rfl,rfl⟩:=hb;obtain⟨cap,hu,had⟩:=hpt rfl;subst had;rcases hg with⟨_,hg,_⟩|⟨b',cap',vs,t',hg,hh,h3,h4,h5,h1,hc0,hnod,h2⟩
    ·subst hg;simp only[dM]at hcl;omega
    ·rw[hu]at hg;simp only[bw,aM,dn,cx,eX]at hg;obtain⟨rfl,rfl⟩:=hg;have hlx:=AV.iS hx1;have hlv:(a.eval x).cells.size=n:=by rw[<-hl1,<-hlx];simp
     have hlv2:off'+n<=vs.size:=by rw[h3];exact bP hl2 (by rw[hcl];exact bG _ h4)
     have hrun:=eL P b off' t' (a.eval x).cells.toList 0 vs w hh (by simp;omega) (fun v hv=>xA (hx2 v hv));simp only[cP,Array.length_toList,hlv]at hrun;obtain⟨β',h9⟩:=PN hst hs (by rw[hb',hu]) hh hl1 hl2 hnd hlv2 hx1 hx2;refine⟨_,β',env,_,?_,h9,hk⟩;simp[execOp,hop,Instr.storeAt,hv,Instr.sureAddr,storeVar,Go.sizeOf,typeInfo,hi,hin,hlv,hrun]
   ·exact hk.elim
  ·exact hk.elim
 ·exact hk.elim
end
theorem Dp{O:Own}{w:World}{b:Nat}{vs:Array Value}{t:Nat}{us:List Value}(hh:w.heap[b]?=some (.cells vs t (0,0)))(hc:jW O w b 0 us):us=vs.toList.take us.length:=by
 apply dL;intro j;rw[bL];split
 ·rename_i hlt;have:=(hc j _ (aA hlt)).1;simp only[World.cell?,hh,bR,ah,ay,cy]at this;rw[aA hlt];simpa using this.symm
 ·rename_i hlt;exact bK gu
theorem Su{β:gZ}{s:gQ}{i j b o:Nat}{x y:Ob}{p q:Place}(hij:i≠j)(h:own (gG (gG β i p) j q) (sset (sset s i x) j y) b o)
 (h1:qv (fun _=>p) [(i,x)] i b o->own β s b o) (h2:qv (fun _=>q) [(j,y)] j b o->own β s b o):own β s b o:=by
 obtain⟨id,h⟩:=h;rw[iE,iE]at h;by_cases hj:id=j
 ·subst hj;refine h2 ?_;unfold qv;cases y<;>simpa[sat,gG]using h
 ·by_cases hi:id=i
  ·subst hi;refine h1 ?_;unfold qv;cases x<;>simpa[sat,gG,hj]using h
  ·refine⟨id,?_⟩;simp only[hj,hi,ay]at h;cases hs:sat s id<;>rw[hs]at h<;>simpa[gG,hi,hj]using h
theorem zh{β:gZ}{s:gQ}{i j id b:Nat}{x y:Ob}{p q:Place}(hij:i≠j)(h:gy (gG (gG β i p) j q) (sset (sset s i x) j y) id b):
 (id=j/\gy (fun _=>q) [(j,y)] j b)\/(id=i/\gy (fun _=>p) [(i,x)] i b)\/(id≠i/\id≠j/\gy β s id b):=by
 unfold gy at h⊢;rw[iE,iE]at h;by_cases hj:id=j
 ·subst hj;exact .inl ⟨rfl,by simpa[sat,gG]using h⟩
 ·by_cases hi:id=i
  ·subst hi;exact .inr (.inl ⟨rfl,by simpa[sat,gG,hj]using h⟩)
  ·refine .inr (.inr ⟨hi,hj,?_⟩);simp only[hj,hi,ay]at h;cases hs:sat s id<;>rw[hs]at h<;>simpa[gG,hi,hj]using h
theorem St.Ti{C:Ctx}{β:gZ}{env:List AV}{s:gQ}{a:Act}{w:World}(h:St C β env s a w){j j2:Nat}(hj:j≠j2){t e n t2 e2 m:Nat}{cs cs2:List AV}
 {b b2 cap cap2:Nat} {bs bs2:List Nat} {vs vs2:Array Value}
 (hsj:sat s j=.jj t e n (cs++List.replicate cs2.length .iN)) (hsj2:sat s j2=.jj t2 e2 m cs2)
 (hbj:β j=.jj (.slice (some ⟨b,0,none⟩) n cap) n bs) (hbj2:β j2=.jj (.slice (some ⟨b2,0,none⟩) m cap2) m bs2)
 (hh:w.heap[b]?=some (.cells vs t (0,0))) (hh2:w.heap[b2]?=some (.cells vs2 t2 (0,0)))
 (hval:(vs.toList.drop cs.length).take cs2.length=vs2.toList.take cs2.length):
 St C (gG (gG β j (.jj (.slice (some ⟨b,0,none⟩) n cap) n (bs++bs2))) j2 (.jj (.slice (some ⟨b2,0,none⟩) m cap2) m [])) env
  (sset (sset s j (.jj t e n (cs++cs2))) j2 (.jj t2 e2 m (List.replicate cs2.length .iN))) a w/\
 ∀x v,AV.ok β (C.gO β s) w x v->AV.ok (gG (gG β j (.jj (.slice (some ⟨b,0,none⟩) n cap) n (bs++bs2))) j2 (.jj (.slice (some ⟨b2,0,none⟩) m cap2) m []))
  (C.gO (gG (gG β j (.jj (.slice (some ⟨b,0,none⟩) n cap) n (bs++bs2))) j2 (.jj (.slice (some ⟨b2,0,none⟩) m cap2) m [])) (sset (sset s j (.jj t e n (cs++cs2))) j2 (.jj t2 e2 m (List.replicate cs2.length .iN)))) w x v:=by
 have ho1:=h.inv.obs j;have ho2:=h.inv.obs j2;rw[hsj]at ho1;rw[hsj2]at ho2;obtain⟨u,bs',k1,k0,k3,k4⟩:=ho1;rw[hbj]at k1;cases k1;obtain⟨u2,bs2',l1,l0,l3,l4⟩:=ho2;rw[hbj2]at l1;cases l1;have hB1:∀b',b'=b\/b'∈bs->gy β s j b':=fun b' h=>by unfold gy;rw[hsj];exact⟨_,bs,hbj,h.imp (fun h=>by subst h;exact⟨cap,rfl⟩) id⟩
 have hB2:∀b',b'=b2\/b'∈bs2->gy β s j2 b':=fun b' h=>by unfold gy;rw[hsj2];exact⟨_,bs2,hbj2,h.imp (fun h=>by subst h;exact⟨cap2,rfl⟩) id⟩
 have hno:∀b',(b'=b\/b'∈bs)->¬(b'=b2\/b'∈bs2):=fun b' h1 h2=>hj (h.inv.inj j j2 b' (hB1 b' h1) (hB2 b' h2))
 rcases k4 with⟨k4,_⟩|⟨b',cap',vs',k4,k5,k6,k7,k8,k9,k10,k11⟩
 ·cases k4
 cases k4;rw[hh]at k5;cases k5;rcases l4 with⟨l4,_⟩|⟨b',cap',vs',l4,l5,l6,l7,l8,l9,l10,l11⟩
 ·cases l4
 cases l4;rw[hh2]at l5;cases l5;have hx1:∀b',gy (fun _=>Place.jj (.slice (some ⟨b,0,none⟩) n cap) n (bs++bs2)) [(j,Ob.jj t e n (cs++cs2))] j b'->(b'=b\/b'∈bs)\/b'∈bs2:=fun b' h=>by
  simp only[gy,sat,aj]at h;obtain⟨v,q,h,h2⟩:=h;simp at h;obtain⟨rfl,rfl⟩:=h;rcases h2 with⟨_,h2⟩|h2
  ·simp at h2;exact .inl (.inl h2.1.symm)
  ·rcases aG.1 h2 with h2|h2
   ·exact .inl (.inr h2)
   ·exact .inr h2
 have hx2:∀b',gy (fun _=>Place.jj (.slice (some ⟨b2,0,none⟩) m cap2) m []) [(j2,Ob.jj t2 e2 m (List.replicate cs2.length .iN))] j2 b'->b'=b2:=fun b' h=>by
  simp only[gy,sat,aj]at h;obtain⟨v,q,h,h2⟩:=h;simp at h;obtain⟨rfl,rfl⟩:=h;rcases h2 with⟨_,h2⟩|h2
  ·simp at h2;exact h2.1.symm
  ·simp at h2
 have m':mu β s w (gG (gG β j (.jj (.slice (some ⟨b,0,none⟩) n cap) n (bs++bs2))) j2 (.jj (.slice (some ⟨b2,0,none⟩) m cap2) m []))
  (sset (sset s j (.jj t e n (cs++cs2))) j2 (.jj t2 e2 m (List.replicate cs2.length .iN))) w:=by
  refine⟨aO _,rfl,fun _ _ _ h _=>h,fun _ _ _=>rfl,fun b' o ho=>.inl (Su hj ho (fun h1=>?_) fun h1=>?_),fun i b' hb=>.inl ?_,fun i=>?_⟩
  ·simp only[qv,sat,aj]at h1;obtain⟨cap',q,h1,h2⟩:=h1;simp at h1;refine⟨j,?_⟩;rw[hsj];obtain⟨⟨rfl,rfl⟩,rfl⟩:=h1;exact⟨cap,bs,hbj,h2⟩
  ·simp only[qv,sat,aj]at h1;obtain⟨cap',q,h1,h2⟩:=h1;simp at h1;refine⟨j2,?_⟩;rw[hsj2];obtain⟨⟨rfl,rfl⟩,_⟩:=h1;exact⟨cap2,bs2,hbj2,h2⟩
  ·rcases zh hj hb with⟨_,h1⟩|⟨_,h1⟩|⟨_,_,h1⟩
   ·exact⟨j2,hB2 b' (.inl (hx2 b' h1))⟩
   ·rcases hx1 b' h1 with h1|h1
    ·exact⟨j,hB1 b' h1⟩
    ·exact⟨j2,hB2 b' (.inr h1)⟩
   ·exact⟨i,h1⟩
  ·by_cases hi2:i=j2
   ·subst hi2;simp only[gG,aj];rw[hbj2];exact⟨_,_,_,rfl,aO _,fun _=>rfl⟩
   ·by_cases hi:i=j
    ·subst hi;simp only[gG,hj,ay,aj];rw[hbj];exact⟨_,_,_,rfl,aO _,fun _=>rfl⟩
    ·simp only[gG,hi,hi2,ay];exact .refl _
 refine⟨h.move m' (fun i=>?_) (fun i i' b' h1 h2=>?_),fun x v hx=>m'.ok hx⟩
 ·rw[iE,iE];by_cases hi2:i=j2
  ·subst hi2;simp only[aj];refine⟨_,[],by simp[gG],by simp,by simpa using l3,.inr ⟨b2,cap2,vs2,rfl,hh2,l6,l7,l8,l9,by simp,Da (yo l11)⟩⟩
  ·by_cases hi:i=j
   ·subst hi;simp only[hj,ay,aj];refine⟨_,bs++bs2,by simp[gG,hj],fun b' hb'=>?_,by simpa using k3,.inr ⟨b,cap,vs,rfl,hh,k6,k7,k8,k9,?_,?_⟩⟩
    ·rcases aG.1 hb' with hb'|hb'
     ·exact k0 b' hb'
     ·exact l0 b' hb'
    ·rw[<-bH];refine cg.2 ⟨k10,(bJ.1 l10).2,fun x hx y hy he=>?_⟩;subst he;exact hno x (by simpa using hx) (.inr hy)
    ·have E1:oT (gG (gG β i (.jj (.slice (some ⟨b,0,none⟩) n cap) n (bs++bs2))) j2 (.jj (.slice (some ⟨b2,0,none⟩) m cap2) m []))
      (C.gO (gG (gG β i (.jj (.slice (some ⟨b,0,none⟩) n cap) n (bs++bs2))) j2 (.jj (.slice (some ⟨b2,0,none⟩) m cap2) m [])) (sset (sset s i (.jj t e n (cs++cs2))) j2 (.jj t2 e2 m (List.replicate cs2.length .iN)))) w (cs++List.replicate cs2.length .iN) vs.toList bs:=by
      have:=oT.imp (f:=fun x=>x) (qb fun x v=>m'.ok) (fun _ _=>rfl) k11;simpa using this
     have E2:oT (gG (gG β i (.jj (.slice (some ⟨b,0,none⟩) n cap) n (bs++bs2))) j2 (.jj (.slice (some ⟨b2,0,none⟩) m cap2) m []))
      (C.gO (gG (gG β i (.jj (.slice (some ⟨b,0,none⟩) n cap) n (bs++bs2))) j2 (.jj (.slice (some ⟨b2,0,none⟩) m cap2) m [])) (sset (sset s i (.jj t e n (cs++cs2))) j2 (.jj t2 e2 m (List.replicate cs2.length .iN)))) w cs2 vs2.toList bs2:=by
      have:=oT.imp (f:=fun x=>x) (qb fun x v=>m'.ok) (fun _ _=>rfl) l11;simpa using this
     have hlen:=yo E1;rw[au]at hlen;have E3:oT (gG (gG β i (.jj (.slice (some ⟨b,0,none⟩) n cap) n (bs++bs2))) j2 (.jj (.slice (some ⟨b2,0,none⟩) m cap2) m []))
      (C.gO (gG (gG β i (.jj (.slice (some ⟨b,0,none⟩) n cap) n (bs++bs2))) j2 (.jj (.slice (some ⟨b2,0,none⟩) m cap2) m [])) (sset (sset s i (.jj t e n (cs++cs2))) j2 (.jj t2 e2 m (List.replicate cs2.length .iN)))) w cs (vs.toList.take cs.length) bs:=by
      obtain⟨_,q1,q2,q0,q3,q4⟩:=uQ E1;have q5:q2=[]:=Ci q4;rw[q5,bh]at q0;rw[<-q0]at q3;exact rD q3 (by rw[dx,dN])
     have E4:=nZ (us:=vs.toList.take cs.length) (vs:=vs.toList.drop cs.length) (by rw[aU];omega) E3 (rD E2 hval.symm);rwa [bQ]at E4
   ·simp only[hi,hi2,ay];exact(h.inv.obs i).sJ m' (by simp[gG,hi,hi2]) (fun _ _=>rfl) rfl
 ·rcases zh hj h1 with⟨a1,d1⟩|⟨a1,d1⟩|⟨g1,g2,d1⟩<;>rcases zh hj h2 with⟨a2,d2⟩|⟨a2,d2⟩|⟨f1,f2,d2⟩
  ·rw[a1,a2]
  ·have q1:=hx2 b' d1;rcases hx1 _ d2 with d2|d2
   ·exact absurd (.inl q1) (hno _ d2)
   ·exact absurd (q1▸d2) (bJ.1 l10).1
  ·exact absurd (h.inv.inj _ _ b' (hB2 b' (.inl (hx2 b' d1))) d2).symm f2
  ·have q1:=hx2 b' d2;rcases hx1 _ d1 with d1|d1
   ·exact absurd (.inl q1) (hno _ d1)
   ·exact absurd (q1▸d1) (bJ.1 l10).1
  ·rw[a1,a2]
  ·rcases hx1 b' d1 with d1|d1
   ·exact absurd (h.inv.inj _ _ b' (hB1 b' d1) d2).symm f1
   ·exact absurd (h.inv.inj _ _ b' (hB2 b' (.inr d1)) d2).symm f2
  ·exact absurd (h.inv.inj _ _ b' d1 (hB2 b' (.inl (hx2 b' d2)))) g2
  ·rcases hx1 b' d2 with d2|d2
   ·exact absurd (h.inv.inj _ _ b' d1 (hB1 b' d2)) g1
   ·exact absurd (h.inv.inj _ _ b' d1 (hB2 b' (.inr d2))) g2
  ·exact h.inv.inj i i' b' d1 d2
section
variable{P:Program}{C:Ctx}{o:Oper}{env:List AV}{s:gQ}{k:List AV->gQ->Prop}
theorem G6{β:gZ}{O:Own}{w:World}{cs:List AV}{olds rest:List Value}{bs:List Nat}{k:Nat}(h:oT β O w cs olds bs)(hl:olds.length=cs.length)(hk:k<=rest.length):
 oT β O w (cs++List.replicate k .iN) (olds++rest) bs:=by
 have:=nZ hl h (Da (n:=k) (us:=rest) hk);simpa using this
theorem Ie{β:gZ}{a:Act}{w:World}(hst:St C β env s a w){t u ty e e2 sz by':Nat}{i:TypeInfo}{z:Value}
 (ht:P.underlying t=some (.slice e)) (hu:P.underlying u=some (.slice e2)) (hi:P.info? e=some i) (hz:i.zero=some z) (hsz:i.size=sz) (hb:i.bytes=by') (hb0:0<by')
 (hz1:z.cells.size=i.size) (hz2:∀v∈z.cells.toList,one v=true)
 {base:Option Addr} {sLen sCap:Nat} {xs:List D} (hxl:xs.length=sLen) {olds:List Value} (hlo:olds.length=sLen*sz) (hlo1:∀v∈olds,one v=true)
 (holds:olds=[]\/∃b' o,base=some ⟨b',o,none⟩/\jW (C.gO β s) w b' o olds)
 (hrowX:∀(O':Own)(w':World)(b' o':Nat),(∀b o v,w.cell? ⟨b,o,none⟩=some v->¬C.gO β s b o->w'.cell? ⟨b,o,none⟩=some v/\¬O' b o)->
  jW O' w' b' o' olds->D.row O' w' b' o' sz xs)
 {ad:Option Addr} {c:Nat} {ys:List D} {news:List Value} (hln:news.length=ys.length*sz) (hln1:∀v∈news,one v=true)
 (hnews:news=[]\/∃b o,ad=some ⟨b,o,none⟩/\jW (C.gO β s) w b o news)
 (hrowY:∀(O':Own)(w':World)(b' o':Nat),(∀b o v,w.cell? ⟨b,o,none⟩=some v->¬C.gO β s b o->w'.cell? ⟨b,o,none⟩=some v/\¬O' b o)->
  jW O' w' b' o' news->D.row O' w' b' o' sz ys)
 (hg:sCap<sLen+ys.length) (hbd:(sLen+ys.length)*by'<=2^47) {id:Nat} {bs:List Nat}
 (hpl:mG (β id) (.jj (.slice (some ⟨w.heap.size,0,none⟩) (sLen+ys.length) (grownCap w (sLen+ys.length) sCap e)) (sLen+ys.length) bs))
 (hbs:∀b∈bs,gy β s id b) (hnd:bs.Nodup) {cs:List AV} (hcl:cs.length=sLen*sz)
 (hnx:∀β' F w',(∀x v,AV.ok β (C.gO β s) w x v->AV.ok β' F w' x v)->(∀b∈bs,w'.heap[b]?=w.heap[b]?)->oT β' F w' cs olds bs):
 ∃w' β' rest,(Builtin.append_ #[t,u] ty #[.slice base sLen sCap,.slice ad ys.length c]).run P w=
  .ok (.slice (some ⟨w.heap.size,0,none⟩) (sLen+ys.length) (grownCap w (sLen+ys.length) sCap e)) w'/\
  St C β' env (sset s id (.jj e sz (sLen+ys.length) (cs++List.replicate (ys.length*sz) .iN))) a w'/\
  AV.ok β' (C.gO β' (sset s id (.jj e sz (sLen+ys.length) (cs++List.replicate (ys.length*sz) .iN)))) w' (.own sz id (xs++ys))
   (.slice (some ⟨w.heap.size,0,none⟩) (sLen+ys.length) (grownCap w (sLen+ys.length) sCap e))/\
  β'=gG β id (.jj (.slice (some ⟨w.heap.size,0,none⟩) (sLen+ys.length) (grownCap w (sLen+ys.length) sCap e)) (sLen+ys.length) bs)/\
  w'.heap[w.heap.size]?=some (.cells (olds++news++rest).toArray e (0,0))/\∀b,b<w.heap.size->w'.heap[b]?=w.heap[b]?:=by
 have hneed:sLen+ys.length<=2^47:=bP (cj _ hb0) hbd;have hrun:=qq (P:=P) (w:=w) t u ty e e2 i z ht hu hi hz base sLen sCap olds (by rw[hsz];exact hlo)
  (holds.imp (fun x=>x) fun⟨b',o',h1,h2⟩=>⟨b',o',h1,fun j v hj=>(h2 j v hj).1⟩) ad ys.length c news (by rw[hsz];exact hln)
  (hnews.imp (fun x=>x) fun⟨b',o',h1,h2⟩=>⟨b',o',h1,fun j v hj=>(h2 j v hj).1⟩) hg gu (by rw[hb];exact eI hg (by simpa using hbd))
 have hcap1:=eK w (sLen+ys.length) sCap e;have hcap2:=dB w (sLen+ys.length) sCap e (by unfold Go.maxLen;omega);have hcell:(olds.toArray++news.toArray++Builtin.zeroCells z.cells (grownCap w (sLen+ys.length) sCap e-(sLen+ys.length))).toList=olds++news++(Builtin.zeroCells z.cells (grownCap w (sLen+ys.length) sCap e-(sLen+ys.length))).toList:=by simp
 have hlen:(olds++news).length=(sLen+ys.length)*sz:=by rw[au,hlo,hln,bk]
 have hst':St C β env s a w.drew:=hst.drew;obtain⟨β',h1,h2,h3⟩:=DW hst' (id:=id) (t:=e) (e:=sz) (n:=sLen+ys.length) (cap:=grownCap w (sLen+ys.length) sCap e)
  (c:=olds.toArray++news.toArray++Builtin.zeroCells z.cells (grownCap w (sLen+ys.length) sCap e-(sLen+ys.length))) (xs:=xs++ys) (cs:=cs++List.replicate (ys.length*sz) .iN) (bs:=bs) hpl hbs hnd
  (by
   rw[cH,cH,d_,hz1,hsz];simp only[cz,hlo,hln];rw[<-bk,<-bk];congr 1;omega)
  hcap1 (by unfold Go.maxLen at hcap2;omega)
  (fun v hv=>by
   rw[hcell]at hv;simp only[aG]at hv;rcases hv with(hv|hv)|hv
   ·exact hlo1 v hv
   ·exact hln1 v hv
   ·exact pS hz2 _ v hv)
  (by simp[hxl])
  (fun O' w' hm hc=>by
   rw[hcell,uJ _ _ _ hlen]at hc;refine uX (hrowX O' w' _ 0 hm fun j v hj=>?_) (hrowY O' w' _ _ hm fun j v hj=>?_)
   ·have hlt:j<olds.length:=(aN.1 hj).1;exact hc j v (by rw[aZ hlt];exact hj)
   ·have:=hc (olds.length+j) v (by rw[bN gu];simpa using hj);rw[hlo]at this;rw[hxl];simpa[cM]using this)
  (by rw[au,dG,hcl,bk])
  (fun β' F w' hm hbb=>by
   rw[hcell,aI];exact G6 (hnx β' F w' (fun x v hx=>hm x v (AV.ke (w:=w) (w':=w.drew) (fun b o v hc hn=>⟨hc,hn⟩) (fun _=>.refl _) x v hx)) hbb) (by rw[hlo,hcl]) (by rw[au,hln];omega))
 refine⟨_,β',(Builtin.zeroCells z.cells (grownCap w (sLen+ys.length) sCap e-(sLen+ys.length))).toList,hrun,h1,h2,h3,?_,fun b hlt=>b_ (w:=w.drew) hlt⟩;have:=cW (w:=w.drew) (o:=.cells (olds.toArray++news.toArray++Builtin.zeroCells z.cells (grownCap w (sLen+ys.length) sCap e-(sLen+ys.length))) e);refine this.trans (bW some ?_);congr 1;apply cO;rw[hcell]
theorem PG{β:gZ}{a:Act}{w:World}(hst:St C β env s a w){e sz j g capg:Nat}{xs ys:List D}{cs:List AV}{bs:List Nat}{vs:Array Value}{news:List Value}
 (hsj:sat s j=.jj e sz xs.length cs) (hbj:β j=.jj (.slice (some ⟨g,0,none⟩) xs.length capg) xs.length bs) (hh:w.heap[g]?=some (.cells vs e (0,0)))
 (hx:AV.ok β (C.gO β s) w (.own sz j xs) (.slice (some ⟨g,0,none⟩) xs.length capg))
 (hln:news.length=ys.length*sz) (hln1:∀v∈news,one v=true)
 (hrowY:∀(O':Own)(w':World)(b' o':Nat),(∀b o v,w.cell? ⟨b,o,none⟩=some v->¬C.gO β s b o->w'.cell? ⟨b,o,none⟩=some v/\¬O' b o)->
  jW O' w' b' o' news->D.row O' w' b' o' sz ys)
 (hroom:xs.length+ys.length<=capg):
 St C (gG β j (.jj (.slice (some ⟨g,0,none⟩) (xs.length+ys.length) capg) (xs.length+ys.length) bs)) env
  (sset s j (.jj e sz (xs.length+ys.length) (cs++List.replicate (ys.length*sz) .iN))) a
  (w.setRow g (vs.toList.take (xs.length*sz)++news++vs.toList.drop (xs.length*sz+news.length)).toArray)/\
 AV.ok (gG β j (.jj (.slice (some ⟨g,0,none⟩) (xs.length+ys.length) capg) (xs.length+ys.length) bs))
  (C.gO (gG β j (.jj (.slice (some ⟨g,0,none⟩) (xs.length+ys.length) capg) (xs.length+ys.length) bs)) (sset s j (.jj e sz (xs.length+ys.length) (cs++List.replicate (ys.length*sz) .iN))))
  (w.setRow g (vs.toList.take (xs.length*sz)++news++vs.toList.drop (xs.length*sz+news.length)).toArray) (.own sz j (xs++ys)) (.slice (some ⟨g,0,none⟩) (xs.length+ys.length) capg):=by
 have ho:=hst.inv.obs j;rw[hsj]at ho;obtain⟨u,bs',k1,k0,k3,k4⟩:=ho;rw[hbj]at k1;cases k1;rcases k4 with⟨k4,_⟩|⟨g',cap',vs',k4,k5,k6,k7,k8,k9,k10,k11⟩
 ·cases k4
 cases k4;rw[hh]at k5;cases k5;have hbl:gy β s j g:=by unfold gy;rw[hsj];exact⟨_,bs,hbj,.inl ⟨capg,rfl⟩⟩
 have hgb:∀b∈bs,b≠g:=fun b hb e=>(bJ.1 k10).1 (e▸hb)
 have hfit:xs.length*sz+news.length<=vs.size:=by
  rw[k6,hln,<-bk];exact bG _ hroom
 have hh':=dS w g vs (vs.toList.take (xs.length*sz)++news++vs.toList.drop (xs.length*sz+news.length)).toArray e (0,0) hh;have hOth:∀b',b'≠g->(w.setRow g (vs.toList.take (xs.length*sz)++news++vs.toList.drop (xs.length*sz+news.length)).toArray).heap[b']?=w.heap[b']?:=fun b' hb'=>dZ w g b' _ (fun e=>hb' e)
 obtain⟨hst',m⟩:=hst.Ql (id:=j) (b:=g) (ob:=.jj e sz (xs.length+ys.length) (cs++List.replicate (ys.length*sz) .iN))
  (p:=.jj (.slice (some ⟨g,0,none⟩) (xs.length+ys.length) capg) (xs.length+ys.length) bs)
  (w':=w.setRow g (vs.toList.take (xs.length*sz)++news++vs.toList.drop (xs.length*sz+news.length)).toArray)
  hbl (by simp) (by simp[EL]) hOth
  (fun q v hcell hn=>by
   have hq:q<xs.length*sz:=by
    rcases cG q (xs.length*sz)with hlt|hge
    ·exact hlt
    ·exact absurd ⟨j,by rw[hsj];exact⟨capg,bs,hbj,hge⟩⟩ hn
   simp only[World.cell?,hh,bR,ah,ay]at hcell;simp only[World.cell?,hh',bR,ah,ay];rw[<-hcell];have hq2:q<(vs.toList.take (xs.length*sz)).length:=by simp;omega
   simp only[List.getElem?_toArray];rw[aI,aZ hq2,bL,aE hq];simp)
  (fun b' q hown=>by
   obtain⟨i',hown⟩:=hown;by_cases hi':i'=j
   ·subst hi';simp only[sat,aj,gG]at hown;obtain⟨cap',bs',q1,q2⟩:=hown;simp at q1;obtain⟨⟨rfl,_⟩,_⟩:=q1;refine⟨i',?_⟩;rw[hsj];exact⟨capg,bs,hbj,bP (bG _ (ei _ _)) q2⟩
   ·simp[sat,hi']at hown)
  (fun b' hb'=>by
   simp only[gy,sat,aj,gG]at hb';obtain⟨v',bs',q1,q2⟩:=hb';simp at q1;obtain⟨rfl,rfl⟩:=q1;rcases q2 with⟨_,q2⟩|q2
   ·simp at q2;rw[<-q2.1];exact hbl
   ·unfold gy;rw[hsj];exact⟨_,bs,hbj,.inr q2⟩)
  (by rw[hbj];exact⟨_,_,bs,rfl,gu,fun hq=>by rw[show ys.length=0 from by omega];rfl⟩)
  (fun β' F hok hp=>⟨_,bs,hp,fun b hb=>by rw[hOth b (hgb b hb)];exact k0 b hb,by rw[au,dG,k3,bk],
   .inr ⟨g,capg,_,rfl,hh',by
    simp only[cz,au,aU,bX,Array.length_toList];omega,hroom,k8,fun v hv=>by
     simp only[aG]at hv;rcases hv with(hv|hv)|hv
     ·exact k9 v (bg hv)
     ·exact hln1 v hv
     ·exact k9 v (bO hv),k10,by
    have h5:=oT.imp (f:=fun x=>x) (qb hok) (fun b hb=>hOth b (hgb b hb)) k11;rw[de]at h5;have h6:=rD (vs:=vs.toList.take (xs.length*sz)) h5 (by rw[k3,dx,dN]);have h7:=G6 (rest:=news++vs.toList.drop (xs.length*sz+news.length)) (k:=ys.length*sz) h6 (by rw[aU,k3];exact fF (bP (ei _ _) hfit)) (by rw[au,<-hln];exact ei _ _);rw[<-aI]at h7;exact h7⟩⟩)
 refine⟨hst',?_⟩;simp only[AV.ok,D.ok]at hx⊢;obtain⟨⟨ax,capx,hxa,hcx,_,hrx⟩,_⟩:=hx;simp only[bw,cx]at hxa;obtain⟨hxa,_⟩:=hxa;refine⟨⟨_,capg,by rw[au],by rw[au];exact⟨hroom,k8⟩,trivial,.inr ⟨g,0,rfl,?_⟩⟩,_,xs.length+ys.length,by simp[gG,Place.at],by simp,fun _=>rfl⟩;have hforb:∀q,q<(xs.length+ys.length)*sz->¬C.gO (gG β j (.jj (.slice (some ⟨g,0,none⟩) (xs.length+ys.length) capg) (xs.length+ys.length) bs)) (sset s j (.jj e sz (xs.length+ys.length) (cs++List.replicate (ys.length*sz) .iN))) g q:=by
  intro q hq hf;rcases hf with hf|hf
  ·have h7:=hst.inv.low _ _ hf;by_cases hq1:q<xs.length*sz
   ·rcases hrx with hrx|⟨b',o',q2,q3⟩
    ·subst hrx;simp at hq1
    ·obtain⟨us,r1,r2,_⟩:=wN q3;rw[<-hxa]at q2;cases q2;have hlt:q<us.length:=by omega
     have:=(r2 q _ (aA hlt)).2.1;exact this (.inl (by simpa using hf))
   ·rcases hst.inv.sK g q ⟨j,by rw[hsj];exact⟨capg,bs,hbj,gu⟩⟩with h8|h8
    ·exact h7.2 h8
    ·omega
  ·rcases Ii hf with⟨i',hi',hf⟩|hf
   ·exact hi' (hst.inv.inj i' j g hf hbl)
   ·obtain⟨i',hf⟩:=hf;by_cases hi':i'=j
    ·subst hi';simp only[sat,aj,gG]at hf;obtain⟨_,_,_,hf⟩:=hf;omega
    ·simp[sat,hi']at hf
 have hXcells:D.row (C.gO (gG β j (.jj (.slice (some ⟨g,0,none⟩) (xs.length+ys.length) capg) (xs.length+ys.length) bs)) (sset s j (.jj e sz (xs.length+ys.length) (cs++List.replicate (ys.length*sz) .iN))))
  (w.setRow g (vs.toList.take (xs.length*sz)++news++vs.toList.drop (xs.length*sz+news.length)).toArray) g 0 sz xs:=by
  rcases hrx with hrx|⟨b',o',q2,q3⟩
  ·subst hrx;simp[D.row]
  ·rw[<-hxa]at q2;cases q2;exact D.wO m.stays _ _ _ _ q3
 refine uX hXcells (hrowY _ _ _ _ m.stays ?_);refine u_ hh' (fun q v hq=>?_) (fun q hq=>hforb _ ?_) hln1
 ·have hq2:q<news.length:=(aN.1 hq).1;have hlen:(vs.toList.take (xs.length*sz)).length=xs.length*sz:=by simp;omega
  simp only[cy];rw[aI,bN gu,hlen,dy,aZ hq2];exact hq
 ·rw[bk];omega
end
theorem FH{j:Nat}{x y:Ob}:∀s:gQ,sset (sset s j x) j y=sset s j y
 |[]=>by simp[sset]
 |(q,z)::r=>by
  simp only[sset];by_cases h:j=q
  ·simp[h,sset]
  ·simp only[h,ay];by_cases h2:j<q
   ·simp[h2,sset]
   ·simp only[h2,ay,sset,h];rw[FH r]
section
variable{P:Program}{C:Ctx}{o:Oper}{env:List AV}{s:gQ}{k:List AV->gQ->Prop}
theorem Q6{β:gZ}{a:Act}{w:World}(hst:St C β env s a w){t u ty e e2 sz by':Nat}{i:TypeInfo}{z:Value}
 (ht:P.underlying t=some (.slice e)) (hu:P.underlying u=some (.slice e2)) (hi:P.info? e=some i) (hz:i.zero=some z) (hsz:i.size=sz) (hb:i.bytes=by') (hb0:0<by') (hsz0:0<sz)
 (hz1:z.cells.size=i.size) (hz2:∀v∈z.cells.toList,one v=true)
 {j j2:Nat} (hj:j≠j2) {xs ys:List D} {cs cs2:List AV} {t2:Nat} (hy0:ys≠[])
 (hsj:sat s j=.jj e sz xs.length cs) (hsj2:sat s j2=.jj t2 sz ys.length cs2)
 {xv yv:Value} (hx:AV.ok β (C.gO β s) w (.own sz j xs) xv) (hy:AV.ok β (C.gO β s) w (.own sz j2 ys) yv)
 (hbd:(xs.length+ys.length)*by'<=2^47):
 ∃v w' β',(Builtin.append_ #[t,u] ty #[xv,yv]).run P w=.ok v w'/\
  St C β' env (sset (sset s j (.jj e sz (xs.length+ys.length) (cs++cs2))) j2 (.jj t2 sz ys.length (List.replicate cs2.length .iN))) a w'/\
  AV.ok β' (C.gO β' (sset (sset s j (.jj e sz (xs.length+ys.length) (cs++cs2))) j2 (.jj t2 sz ys.length (List.replicate cs2.length .iN)))) w' (.own sz j (xs++ys)) v:=by
 have hypos:0<ys.length:=bT.2 hy0;have ho1:=hst.inv.obs j;have ho2:=hst.inv.obs j2;rw[hsj]at ho1;rw[hsj2]at ho2;obtain⟨u1,bs,hbj,k0,k3,k4⟩:=ho1;obtain⟨u2,bs2,hbj2,l0,l3,l4⟩:=ho2;have hxv:xv=u1:=by
  simp only[AV.ok]at hx;obtain⟨_,p,q,h1,_,h3⟩:=hx;rw[hbj]at h1;obtain⟨rfl,rfl⟩:=h1;exact h3 rfl
 have hyv:yv=u2:=by
  simp only[AV.ok]at hy;obtain⟨_,p,q,h1,_,h3⟩:=hy;rw[hbj2]at h1;obtain⟨rfl,rfl⟩:=h1;exact h3 rfl
 subst hxv;subst hyv;rcases l4 with⟨_,l4,_⟩|⟨b2,cap2,vs2,l4,l5,l6,l7,l8,l9,l10,l11⟩
 ·omega
 subst l4;obtain⟨ad,capy,news,hyv,hln,hln1,hnews,hrowY⟩:=FG (e:=sz) (β:=β) (w:=w) (y:=.own sz j2 ys) hy rfl (.inr rfl);simp only[bw,cx]at hyv;obtain⟨rfl,rfl⟩:=hyv;have hnpos:news≠[]:=fun h=>by
  rw[h]at hln;have:=Nat.mul_pos hypos hsz0;simp at hln;omega
 have hnv:news=vs2.toList.take news.length:=by
  rcases hnews with h|⟨b',o',h1,h2⟩
  ·exact absurd h hnpos
  ·cases h1;exact Dp l5 h2
 have hb2lt:b2<w.heap.size:=(bC.1 l5).1;have hc2:cs2.length=news.length:=by rw[l3,hln]
 have fin:∀(β1:gZ)(w':World)(b n cap:Nat)(olds rest:List Value),
  St C β1 env (sset s j (.jj e sz n (cs++List.replicate (ys.length*sz) .iN))) a w'->β1=gG β j (.jj (.slice (some ⟨b,0,none⟩) n cap) n bs)->
  w'.heap[b]?=some (.cells (olds++news++rest).toArray e (0,0))->olds.length=cs.length->w'.heap[b2]?=w.heap[b2]?->
  ∀x v,AV.ok β1 (C.gO β1 (sset s j (.jj e sz n (cs++List.replicate (ys.length*sz) .iN)))) w' x v->
  ∃β',St C β' env (sset (sset s j (.jj e sz n (cs++cs2))) j2 (.jj t2 sz ys.length (List.replicate cs2.length .iN))) a w'/\
   AV.ok β' (C.gO β' (sset (sset s j (.jj e sz n (cs++cs2))) j2 (.jj t2 sz ys.length (List.replicate cs2.length .iN)))) w' x v:=by
  intro β1 w' b n cap olds rest h1 h2 h3 h4 h5 x v hv;have hrep:List.replicate (ys.length*sz) AV.iN=List.replicate cs2.length AV.iN:=by rw[l3]
  rw[hrep]at h1 hv;have hq:=h1.Ti (j:=j) (j2:=j2) hj (t:=e) (e:=sz) (n:=n) (t2:=t2) (e2:=sz) (m:=ys.length) (cs:=cs) (cs2:=cs2) (b:=b) (b2:=b2) (cap:=cap) (cap2:=cap2) (bs:=bs) (bs2:=bs2)
   (by rw[iE,aE rfl]) (by rw[iE,aJ (fun h=>hj h.symm)];exact hsj2) (by rw[h2];simp[gG]) (by rw[h2];simp only[gG,aJ (fun h=>hj h.symm:¬j2=j)];exact hbj2) h3 (by rw[h5];exact l5)
   (by
    show((olds++news++rest).drop cs.length).take cs2.length=_;rw[aI,<-h4,bI,hc2,eC];exact hnv)
  rw[FH]at hq;exact⟨_,hq.1,hq.2 x v hv⟩
 have hk3:∀{olds:List Value},olds.length=xs.length*sz->olds.length=cs.length:=fun h=>by rw[h,k3]
 rcases k4 with⟨k4,k5,k6⟩|⟨g,capg,vs,k4,k5,k6,k7,k8,k9,k10,k11⟩
 ·-- nil
  subst k4;subst k6;have hxs:xs=[]:=bp.1 k5;subst hxs;have hcs:cs=[]:=bp.1 (by simpa using k3);subst hcs;obtain⟨w',β1,rest,hrun,hst1,hok1,hβ1,hh1,hold⟩:=Ie (P:=P) hst (ty:=ty) ht hu hi hz hsz hb hb0 hz1 hz2 (base:=none) (sLen:=0) (sCap:=0) (xs:=[]) rfl (olds:=[]) (by simp) (by simp) (.inl rfl)
   (fun _ _ _ _ _ _=>by simp[D.row]) hln hln1 hnews hrowY (c:=cap2) gu (by simpa using hbd) (id:=j) (bs:=[]) (by rw[hbj];exact⟨_,_,[],rfl,Nat.zero_le _,fun h=>by simp at h;omega⟩) (by simp) (by simp) (cs:=[]) (by simp)
   (fun _ _ _ _ _=>by simp[oT])
  obtain⟨β',h1,h2⟩:=fin β1 w' _ _ _ [] rest (by simpa using hst1) hβ1 (by simpa using hh1) rfl (hold b2 hb2lt) _ _ (by simpa using hok1);exact⟨_,w',β',hrun,by simpa using h1,by simpa using h2⟩
 ·subst k4;by_cases hroom:xs.length+ys.length<=capg
  ·have hfit:xs.length*sz+news.length<=vs.size:=by
    rw[k6,hln,<-bk];exact bG _ hroom
   have hrun:=r_ (P:=P) (w:=w) t u ty e e2 i ht hu hi g xs.length capg vs e k5 (some ⟨b2,0,none⟩) ys.length cap2 news (by rw[hsz];exact hln)
    (hnews.imp (fun x=>x) fun⟨b',o',q1,q2⟩=>⟨b',o',q1,fun j v hj=>(q2 j v hj).1⟩) hln1 hroom (by rw[hsz];exact hfit)
   rw[hsz]at hrun;obtain⟨hst1,hok1⟩:=PG hst hsj hbj k5 hx hln hln1 hrowY hroom;have hb2g:b2≠g:=fun h=>hj (hst.inv.inj j j2 g (by unfold gy;rw[hsj];exact⟨_,bs,hbj,.inl ⟨capg,rfl⟩⟩) (by unfold gy;rw[hsj2];exact⟨_,bs2,hbj2,.inl ⟨cap2,by rw[h]⟩⟩))
   obtain⟨β',h1,h2⟩:=fin _ _ g _ capg (vs.toList.take (xs.length*sz)) (vs.toList.drop (xs.length*sz+news.length)) hst1 rfl (dS w g vs _ e (0,0) k5)
    (hk3 (by rw[aU];exact fF (bP (ei _ _) hfit))) (dZ w g b2 _ fun h=>hb2g h) _ _ hok1
   exact⟨_,_,β',hrun,h1,h2⟩
  ·-- no room
   have hx':=hx;simp only[AV.ok,D.ok]at hx';obtain⟨⟨ax,capx,hxa,hcx,_,hrx⟩,_⟩:=hx';simp only[bw,cx]at hxa;obtain⟨hxa,_⟩:=hxa;have hrowX:∃olds:List Value,olds.length=xs.length*sz/\(∀v∈olds,one v=true)/\(olds=[]\/∃b' o,(some ⟨g,0,none⟩:Option Addr)=some ⟨b',o,none⟩/\jW (C.gO β s) w b' o olds)/\
    olds=vs.toList.take olds.length/\∀(O':Own)(w':World)(b' o':Nat),(∀b o v,w.cell? ⟨b,o,none⟩=some v->¬C.gO β s b o->w'.cell? ⟨b,o,none⟩=some v/\¬O' b o)->
     jW O' w' b' o' olds->D.row O' w' b' o' sz xs:=by
    rcases hrx with hrx|⟨b',o',q2,q3⟩
    ·subst hrx;exact⟨[],by simp,by simp,.inl rfl,by simp,fun _ _ _ _ _ _=>by simp[D.row]⟩
    ·rw[<-hxa]at q2;obtain⟨us,r1,r2,r3⟩:=wN q3;cases q2;exact⟨us,r1,r2.one,.inr ⟨g,0,rfl,r2⟩,Dp k5 r2,r3⟩
   obtain⟨olds,o1,o2,o3,o5,o4⟩:=hrowX;obtain⟨w',β1,rest,hrun,hst1,hok1,hβ1,hh1,hold⟩:=Ie (P:=P) hst (ty:=ty) ht hu hi hz hsz hb hb0 hz1 hz2 (base:=some ⟨g,0,none⟩) (sLen:=xs.length) (sCap:=capg) (xs:=xs) rfl (olds:=olds) o1 o2 o3 o4
    hln hln1 hnews hrowY (c:=cap2) gu hbd (id:=j) (bs:=bs) (by rw[hbj];exact⟨_,_,bs,rfl,gu,fun h=>by omega⟩)
    (fun b hb=>by unfold gy;rw[hsj];exact⟨_,bs,hbj,.inr hb⟩) (bJ.1 k10).2 (cs:=cs) k3
    (fun β' F w' hm hbb=>by
     have h5:=oT.imp (f:=fun x=>x) (qb hm) hbb k11;rw[de]at h5;refine rD h5 ?_;rw[o5,k3,o1,dx,dN])
   obtain⟨β',h1,h2⟩:=fin β1 w' _ _ _ olds rest hst1 hβ1 hh1 (hk3 o1) (hold b2 hb2lt) _ _ hok1;exact⟨_,w',β',hrun,h1,h2⟩
theorem U6{c:Call}(hop:o.op=.call c)(hc:c.callee=.builtin .append){x y:Operand}(ha:c.args=#[x,y]){t u:Nat}
 (hat:c.argTypes[0]?=some t) (hau:c.argTypes[1]?=some u) {e e2:Nat} (ht:P.underlying t=some (.slice e)) (hu:P.underlying u=some (.slice e2))
 {sz by':Nat} (hsz:kZ P e=some sz) (hby:xD P e=some by') {z:List D} (hz:sL P e=some z) (hsz0:0<sz) (hb0:0<by')
 (hk:KE e sz by' (ev env x) (ev env y) env s fun x env s=>k (iU o.dst env x) s):mU P C o env s k:=by
 refine .value fun β a w hst=>?_
 obtain⟨i,zv,hi,hzv,hz1,hz2,_⟩:=nE hz;have hisz:i.size=sz:=by obtain⟨i',h1,h2⟩:=kT hsz;rw[hi]at h1;cases h1;exact h2
 have hib:i.bytes=by':=by obtain⟨i',h1,h2⟩:=tN hby;rw[hi]at h1;cases h1;exact h2
 have hexec:∀v w',(Builtin.append_ #[t,u] o.type #[a.eval x,a.eval y]).run P w=.ok v w'->(execOp a.eval o).run P w=.ok (.value v) w':=by
  intro v w' hr;have:∀w,(Builtin.append_ c.argTypes o.type #[a.eval x,a.eval y]).run P w=(Builtin.append_ #[t,u] o.type #[a.eval x,a.eval y]).run P w:=by
   intro w;unfold Builtin.append_;simp[hat,hau]
  simp[execOp,hop,resolve,hc,ha,invoke,builtin,this,hr]
 have hx:=hst.ev x;have hy:=hst.ev y;unfold KE at hk;split at hk
 case h_2=>exact hk.elim
 rename_i e' j xs e2' j2 ys hxe hye;obtain⟨rfl,rfl,hj,hy0,hbd,hk⟩:=hk;split at hk
 case h_2=>exact hk.elim
 rename_i t1 e3 n cs t2 e4 m cs2 hsj hsj2;obtain⟨rfl,rfl,rfl,rfl,rfl,hk⟩:=hk;rw[hxe]at hx;rw[hye]at hy;obtain⟨v,w',β',hrun,hst',hok⟩:=Q6 (P:=P) hst (ty:=o.type) ht hu hi hzv hisz hib hb0 hsz0 hz1 hz2 hj hy0 hsj hsj2 hx hy hbd;exact⟨v,w',β',env,_,_,hexec _ _ hrun,hst',hok,hk⟩
end
section
variable{P:Program}{C:Ctx}{o:Oper}{env:List AV}{s:gQ}{k:List AV->gQ->Prop}
theorem fl{w:World}{t e:Nat}{i:TypeInfo}{u:Value}(ht:P.underlying t=some (.slice e))(hi:P.info? e=some i)(hz:i.zero=some u)
 {j j':IntKind} {l c:Int} (h0:0<=l) (h1:l<=c) (h2:i.bytes*c<=2^48) (h3:c<2^62):
 (Instr.makeSlice t (.int j l) (.int j' c)).run P w=.ok (.slice (some ⟨w.heap.size,0,none⟩) l.toNat c.toNat)
  (w.alloc (.cells ((Array.range (c.toNat*i.size)).map fun q=>(if c.toNat*i.size=0 then #[]else u.cells)[q%(if c.toNat*i.size=0 then #[]else u.cells).size]!) e)):=by
 have w1:IntKind.i64.wrap l=l:=by
  unfold IntKind.wrap IntKind.bits IntKind.signed;simp only[bz];have:l%2^64=l:=Int.emod_eq_of_lt h0 gu;rw[this];rw[aJ];simp;omega
 have w2:IntKind.i64.wrap c=c:=by
  unfold IntKind.wrap IntKind.bits IntKind.signed;simp only[bz];have:c%2^64=c:=Int.emod_eq_of_lt gu gu;rw[this];rw[aJ];simp;omega
 have hb1:¬(c<0):=by omega
 have hb2:¬(i.bytes*c>2^48):=by omega
 have hb3:¬(l<0):=by omega
 have hb4:¬(l>c):=by omega
 simp only[Instr.makeSlice,aR,aY ht,aF,Go.asInt,asIntOf,a_,typeInfo,cQ,hi,w1,w2];have hc:(decide (c<0)||decide (i.bytes*c>2^48)||decide (l<0)||decide (l>c))=false:=by rw[cJ hb1,cJ hb2,cJ hb3,cJ hb4];rfl
 rw[aJ (by rw[hc];simp)];simp only[aR,run_askRoom,aF,Go.sizeOf,typeInfo,cQ,hi,a_];by_cases hq:c.toNat*i.size=0
 ·simp only[aE hq,a_,aF,newRow,aR,dR,cX]
 ·simp only[aJ hq,zeroValue,typeInfo,aR,cQ,hi,hz,a_,aF,newRow,dR,cX]
theorem El{z:Array Value}{sz n:Nat}(hz:z.size=sz):((Array.range (n*sz)).map fun q=>z[q%sz]!).toList=(List.replicate n z.toList).flatten:=by
 induction n with
 |zero=>simp
 |succ n ih=>
  have e1:(n+1)*sz=n*sz+sz:=by rw[bk];omega
  rw[e1];simp only[dQ,Array.toList_range]at ih⊢;rw[List.range_add,aP,ih,List.replicate_succ',dc];congr 1;simp only[cm,fB,bh,eB];apply List.ext_getElem
  ·simp[hz]
  ·intro q h1 h2;simp at h1;have h3:q<z.size:=by omega
   simp only[dO,eG,Function.comp];have:(n*sz+q)%sz=q:=by rw[eA,Nat.add_mul_mod_self_right,Nat.mod_eq_of_lt h1]
   rw[this,getElem!_pos z q h3];simp
theorem zA{β:gZ}{O:Own}{w:World}{xs:List AV}{vs:List Value}(h:AV.iK β O w xs vs):∀n,AV.iK β O w (List.replicate n xs).flatten (List.replicate n vs).flatten
 |0=>by simp[AV.iK]
 |n+1=>by
  simp only[cp,cm];exact pR h (zA h n)
theorem P5{d t:Nat}{len cap:Operand}(hop:o.op=.makeSlice t len cap){e sz by':Nat}(ht:P.underlying t=some (.slice e))(hsz:kZ P e=some sz)
 (hby:xD P e=some by') {z:List D} (hz:sL P e=some z) (hsz0:0<sz) {tok:Bool} (htok:(tok=true/\isZero len=true)\/(tok=false/\yJ len cap=true))
 {l c:Int} (hl:kr (ev env len)=some l) (hc:kr (ev env cap)=some c) (h0:0<=l) (h1:l<=c) (h2:by'*c<=2^48) (h3:c<2^62)
 (hk:uM C.k d env s fun env s _=>if tok then k (iU o.dst env (.own sz d [])) (sset s d (.tok e sz 0))
  else k (iU o.dst env (.tS sz d 0 l.toNat)) (sset s d (.obj e ((List.replicate l.toNat (z.map .d)).flatten)))):mU P C o env s k:=by
 refine .value fun β a w hst=>?_
 obtain⟨i,u,hi,hzu,hzs,hz1,rfl⟩:=nE hz;have hisz:i.size=sz:=by obtain⟨i',h1,h2⟩:=kT hsz;rw[hi]at h1;cases h1;exact h2
 have hib:i.bytes=by':=by obtain⟨i',h1,h2⟩:=tN hby;rw[hi]at h1;cases h1;exact h2
 obtain⟨jl,hvl⟩:=uu (hst.ev len) hl;obtain⟨jc,hvc⟩:=uu (hst.ev cap) hc;have hrun:=fl (P:=P) (w:=w) ht hi hzu (j:=jl) (j':=jc) h0 h1 (by rw[hib];exact h2) h3;rw[hisz]at hrun;have hcells:((Array.range (c.toNat*sz)).map fun q=>(if c.toNat*sz=0 then #[]else u.cells)[q%(if c.toNat*sz=0 then #[]else u.cells).size]!).toList=(List.replicate c.toNat u.cells.toList).flatten:=by
  by_cases hq:c.toNat*sz=0
  ·have:c.toNat=0:=by rcases Nat.mul_eq_zero.1 hq with h|h<;>omega
   simp[this]
  ·simp only[aJ hq];rw[show u.cells.size=sz by omega];exact El gu
 generalize hA:((Array.range (c.toNat*sz)).map fun q=>(if c.toNat*sz=0 then #[]else u.cells)[q%(if c.toNat*sz=0 then #[]else u.cells).size]!)=arr at hrun hcells;have harr1:∀v∈arr.toList,one v=true:=by
  rw[hcells];intro v hv;simp only[ej,eF]at hv;obtain⟨l',⟨_,rfl⟩,hv⟩:=hv;exact hz1 v hv
 have hsize:arr.size=c.toNat*sz:=by
  have:=bW List.length hcells;simp only[Array.length_toList]at this;rw[this];simp;rw[hzs,hisz]
 obtain⟨β1,env1,s1,f,hst1,hd1,hk1,_,hf⟩:=pQ hk hst;have hno:β1 d=.no:=by have:=hst1.inv.obs d;rw[hd1]at this;exact this
 have hexec:(execOp a.eval o).run P w=.ok (.value (.slice (some ⟨w.heap.size,0,none⟩) l.toNat c.toNat)) (w.alloc (.cells arr e)):=by simp only[execOp,hop,hvl,hvc,aR,hrun,aF,a_]
 rcases htok with⟨rfl,hzl⟩|⟨rfl,hsame⟩
 ·have hl0:l=0:=by
   cases len with
   |const v=>
    cases v with
    |int j n=>
     have:n=0:=by
      unfold isZero at hzl;split at hzl
      ·rename_i heq;cases heq;rfl
      ·cases hzl
     subst this;simp[Act.eval]at hvl;omega
    |_=>simp[isZero]at hzl
   |_=>simp[isZero]at hzl
  subst hl0;simp only[aj]at hk1;obtain⟨β',hst',hok'⟩:=yH hst1 (id:=d) (t:=e) (e:=sz) (n:=0) (cap:=c.toNat) (c:=arr) (xs:=[]) (by rw[hno];trivial) hsize (Nat.zero_le _) gu harr1 rfl
   (fun _ _ _ _=>by simp[D.row])
  exact⟨_,_,β',env1,_,_,hexec,hst',hok',hk1⟩
 ·have hlc:l=c:=by
   unfold yJ at hsame;split at hsame
   ·simp at hsame;subst hsame;rw[hvl]at hvc;cases hvc;rfl
   ·simp at hsame;obtain⟨rfl,rfl⟩:=hsame;simp[Act.eval]at hvl hvc;omega
   ·cases hsame
  subst hlc;simp only[ah,ay]at hk1;obtain⟨β',hst',m,hp⟩:=hst1.newObj (id:=d) hd1 (c:=arr) (t:=e) (cs:=(List.replicate l.toNat ((u.cells.toList.map cD).map .d)).flatten) harr1
   (by rw[hcells];exact zA (Hv (BK _ hz1)) _)
  refine⟨_,_,β',env1,_,_,hexec,hst',?_,hk1⟩;simp only[AV.ok]at hp⊢;obtain⟨b,h4,h5⟩:=hp;cases h5;exact⟨_,l.toNat,h4,⟨aO _,gu⟩,rfl⟩
theorem Lp{O:Own}{w:World}{b:Nat}{x:D}{v:Value}(hx:D.ok O w x v)(h1:∀cs,x≠ .agg cs):∀(n o:Nat),jW O w b o (List.replicate n v)->D.row O w b o 1 (List.replicate n x)
 |0,_,_=>by simp[D.row]
 |n+1,o,h=>by
  rw[cp,D.oq];refine⟨⟨[v],rfl,fun j u hj=>?_,?_⟩,Lp hx h1 n (o+1) fun j u hj=>?_⟩
  ·cases j with
   |zero=>exact h 0 u (by simpa[cp]using hj)
   |succ j=>simp at hj
  ·cases x with
   |agg cs=>exact absurd rfl (h1 cs)
   |any=>exact⟨v,rfl,hx⟩
   |lit u=>exact⟨v,rfl,hx⟩
   |sl e nl ys=>exact⟨v,rfl,hx⟩
  ·have:=h (j+1) u (by simpa[cp]using hj);rwa [show o+(j+1)=o+1+j by omega]at this
theorem Uk{v:Value}{cs:List D}:cD v≠ .agg cs:=by
 unfold cD;split
 ·intro h;cases h
 ·split<;>intro h<;>cases h
theorem SC{t:Nat}{len cap:Operand}(hop:o.op=.makeSlice t len cap){e by':Nat}(ht:P.underlying t=some (.slice e))(hsz:kZ P e=some 1)
 (hby:xD P e=some by') {zd:D} (hz:sL P e=some [zd]) (hsame:yJ len cap=true)
 {l c:Int} (hl:kr (ev env len)=some l) (hc:kr (ev env cap)=some c) (h0:0<=l) (h1:l<=c) (h2:by'*c<=2^48) (h3:c<2^62)
 (hk:k (iU o.dst env (.d (.sl 1 none (List.replicate l.toNat zd)))) s):mU P C o env s k:=by
 refine .value fun β a w hst=>?_
 obtain⟨i,u,hi,hzu,hzs,hz1,hze⟩:=nE hz;have hisz:i.size=1:=by obtain⟨i',h1,h2⟩:=kT hsz;rw[hi]at h1;cases h1;exact h2
 have hib:i.bytes=by':=by obtain⟨i',h1,h2⟩:=tN hby;rw[hi]at h1;cases h1;exact h2
 obtain⟨jl,hvl⟩:=uu (hst.ev len) hl;obtain⟨jc,hvc⟩:=uu (hst.ev cap) hc;have hrun:=fl (P:=P) (w:=w) ht hi hzu (j:=jl) (j':=jc) h0 h1 (by rw[hib];exact h2) h3;rw[hisz]at hrun;have hcells:((Array.range (c.toNat*1)).map fun q=>(if c.toNat*1=0 then #[]else u.cells)[q%(if c.toNat*1=0 then #[]else u.cells).size]!).toList=(List.replicate c.toNat u.cells.toList).flatten:=by
  by_cases hq:c.toNat*1=0
  ·have:c.toNat=0:=by omega
   simp[this]
  ·simp only[aJ hq];rw[show u.cells.size=1 by omega];exact El gu
 generalize hA:((Array.range (c.toNat*1)).map fun q=>(if c.toNat*1=0 then #[]else u.cells)[q%(if c.toNat*1=0 then #[]else u.cells).size]!)=arr at hrun hcells;obtain⟨v0,hv0⟩:∃v0,u.cells.toList=[v0]:=by
  have:u.cells.toList.length=1:=by simp[hzs,hisz]
  match u.cells.toList,this with
  |[x],_=>exact⟨x,rfl⟩
 rw[hv0]at hcells hze hz1;have hzd:zd=cD v0:=by simpa using hze
 have hfl:(List.replicate c.toNat [v0]).flatten=List.replicate c.toNat v0:=by
  induction c.toNat with
  |zero=>rfl
  |succ n ih=>simp only[cp,cm,ih];rfl
 rw[hfl]at hcells;have hone:one v0=true:=hz1 v0 (by simp);have hlc:l=c:=by
  unfold yJ at hsame;split at hsame
  ·simp at hsame;subst hsame;rw[hvl]at hvc;cases hvc;rfl
  ·simp at hsame;obtain⟨rfl,rfl⟩:=hsame;simp[Act.eval]at hvl hvc;omega
  ·cases hsame
 subst hlc;have hexec:(execOp a.eval o).run P w=.ok (.value (.slice (some ⟨w.heap.size,0,none⟩) l.toNat l.toNat)) (w.alloc (.cells arr e)):=by simp only[execOp,hop,hvl,hvc,aR,hrun,aF,a_]
 obtain⟨g1,g2⟩:=Cq hst (t:=e) (e:=1) (n:=l.toNat) (cap:=l.toNat) (c:=arr) (xs:=List.replicate l.toNat zd) (aO _) gu
  (fun v hv=>by rw[hcells]at hv;rw[(eF.1 hv).2];exact hone) (by simp)
  (fun O' w' _ hcl=>by
   rw[hcells,Nat.mul_one,bM (by simp)]at hcl;rw[hzd];exact Lp (Hq v0 hone) (fun _=>Uk) _ _ hcl)
 exact⟨_,_,β,env,s,_,hexec,g1,by simpa only[AV.ok]using g2,hk⟩
theorem HJ{α:Type}{z:List α}{n:Nat}:((List.replicate n z).flatten).length=n*z.length:=by
 induction n with
 |zero=>simp
 |succ n ih=>rw[cp,cm,au,ih,bk];omega
theorem PF{z:List D}:∀n:Nat,uN ((List.replicate n (z.map .d)).flatten)=true:=fun n=>by
 simp only[uN,cc];intro x hx;rw[ej]at hx;obtain⟨l,h1,h2⟩:=hx;rw[(eF.1 h1).2]at h2;obtain⟨d,_,rfl⟩:=bF.1 h2;rfl
theorem SD{t:Nat}{len cap:Operand}(hop:o.op=.makeSlice t len cap){e sz by' d:Nat}(ht:P.underlying t=some (.slice e))(hsz:kZ P e=some sz)
 (hby:xD P e=some by') {z:List D} (hz:sL P e=some z) (hsame:yJ len cap=true)
 {l c:Int} (hl:kr (ev env len)=some l) (hc:kr (ev env cap)=some c) (h0:0<=l) (h1:l<=c) (h2:by'*c<=2^48) (h3:c<2^62) (_:o.dst=some d)
 (he0:0<sz) (h4:C.k<=d) (h5:(sat s d).kU=true)
 (hk:k (iU o.dst env (.mL sz d l.toNat)) (sset s d (.oU sz l.toNat ((List.replicate l.toNat (z.map .d)).flatten)))):mU P C o env s k:=by
 refine .value fun β a w hst=>?_
 obtain⟨i,u,hi,hzu,hzs,hz1,hze⟩:=nE hz;have hisz:i.size=sz:=by obtain⟨i',h1,h2⟩:=kT hsz;rw[hi]at h1;cases h1;exact h2
 have hib:i.bytes=by':=by obtain⟨i',h1,h2⟩:=tN hby;rw[hi]at h1;cases h1;exact h2
 obtain⟨jl,hvl⟩:=uu (hst.ev len) hl;obtain⟨jc,hvc⟩:=uu (hst.ev cap) hc;have hrun:=fl (P:=P) (w:=w) ht hi hzu (j:=jl) (j':=jc) h0 h1 (by rw[hib];exact h2) h3;rw[hisz]at hrun;have hcells:((Array.range (c.toNat*sz)).map fun q=>(if c.toNat*sz=0 then #[]else u.cells)[q%(if c.toNat*sz=0 then #[]else u.cells).size]!).toList=(List.replicate c.toNat u.cells.toList).flatten:=by
  by_cases hq:c.toNat*sz=0
  ·have:c.toNat=0:=by
    rcases Nat.mul_eq_zero.1 hq with h|h
    ·exact h
    ·omega
   simp[this]
  ·simp only[aJ hq];rw[show u.cells.size=sz by rw[hzs,hisz]];exact El (by rw[hzs,hisz])
 generalize hA:((Array.range (c.toNat*sz)).map fun q=>(if c.toNat*sz=0 then #[]else u.cells)[q%(if c.toNat*sz=0 then #[]else u.cells).size]!)=arr at hrun hcells;have hlc:l=c:=by
  unfold yJ at hsame;split at hsame
  ·simp at hsame;subst hsame;rw[hvl]at hvc;cases hvc;rfl
  ·simp at hsame;obtain⟨rfl,rfl⟩:=hsame;simp[Act.eval]at hvl hvc;omega
  ·cases hsame
 subst hlc;have hdead:sat s d=.dead:=by cases hs:sat s d<;>rw[hs]at h5<;>first|rfl|cases h5
 have hno:β d=.no:=by have:=hst.inv.obs d;rw[hdead]at this;exact this
 have hexec:(execOp a.eval o).run P w=.ok (.value (.slice (some ⟨w.heap.size,0,none⟩) l.toNat l.toNat)) (w.alloc (.cells arr e)):=by simp only[execOp,hop,hvl,hvc,aR,hrun,aF,a_]
 have hzl:z.length=sz:=by rw[hze,aS,Array.length_toList,hzs,hisz]
 have harr:arr.size=l.toNat*sz:=by
  have:=bW List.length hcells;rw[HJ]at this;rw[<-Array.length_toList,this,Array.length_toList,hzs,hisz]
 have hone:∀v∈arr.toList,one v=true:=fun v hv=>by
  rw[hcells,ej]at hv;obtain⟨q,h1,h2⟩:=hv;rw[(eF.1 h1).2]at h2;exact hz1 v h2
 have hzok:∀β' F w',AV.iK β' F w' (z.map .d) u.cells.toList:=fun β' F w'=>by
  rw[hze];have:∀vs:List Value,(∀v∈vs,one v=true)->AV.iK β' F w' ((vs.map cD).map .d) vs:=fun vs=>by
   induction vs with
   |nil=>intro _;simp[AV.iK]
   |cons v vs ih=>intro h;simp only[aT,AV.iK];exact⟨v,vs,rfl,by simp only[AV.ok];exact Hq v (h v (by simp)),ih fun q hq=>h q (by simp[hq])⟩
  exact this _ hz1
 obtain⟨g1,_⟩:=hst.fresh (id:=d) (ob:=.oU sz l.toNat ((List.replicate l.toNat (z.map .d)).flatten)) (p:=.jj (.slice (some ⟨w.heap.size,0,none⟩) l.toNat l.toNat) l.toNat []) (c:=arr) (t:=e) (by rw[hno];trivial)
  (fun b q ho=>by
   obtain⟨i',ho⟩:=ho;by_cases hi':i'=d
   ·subst hi';simp only[sat,aj,gG]at ho;obtain⟨v',q',p1,p2⟩:=ho;simp only[Place.jj.injEq,cx]at p1;obtain⟨rfl,rfl⟩:=p1;rcases p2 with⟨_,p2,_⟩|p2
    ·simp at p2;exact p2.1.symm
    ·simp at p2
   ·simp[sat,hi']at ho)
  (fun b hb=>by
   simp only[gy,sat,aj,gG]at hb;obtain⟨v',q',p1,p2⟩:=hb;simp only[Place.jj.injEq,cx]at p1;obtain⟨rfl,rfl⟩:=p1;rcases p2 with⟨_,p2,_⟩|p2
   ·simp at p2;exact p2.1.symm
   ·simp at p2)
  (fun β' F hok _ hp=>⟨_,[],hp,fun _ h=>by simp at h,by rw[HJ,aS,hzl],by
   rcases ff l.toNat with hz0|hz0
   ·exact .inl ⟨⟨_,by rw[hz0]⟩,hz0,rfl⟩
   ·refine .inr ⟨w.heap.size,l.toNat,arr,e,rfl,cW,harr,aO _,gu,hone,hz0,by simp,?_⟩;have:=uP (rest:=[]) (PF (z:=z) l.toNat) (zA (hzok β' F (w.alloc (.cells arr e))) l.toNat);rw[bh,<-hcells]at this;exact this⟩)
 refine⟨_,_,_,env,_,.mL sz d l.toNat,hexec,g1,?_,hk⟩;simp only[AV.ok];exact⟨_,l.toNat,by simp[gG,Place.at],aO _,fun _=>rfl,.inr ⟨w.heap.size,l.toNat,rfl,aO _,gu⟩⟩
end
theorem tT{β β':gZ}{s s':gQ}{i j b o:Nat}{ρ:Nat->Option Nat}(hb:β' j=β i)(hs:sat s' j=(sat s i).hG ρ):qv β' s' j b o<->qv β s i b o:=by
 unfold qv;rw[hs,hb];cases sat s i<;>simp[Ob.hG]
theorem xC{β β':gZ}{s s':gQ}{i j b:Nat}{ρ:Nat->Option Nat}(hb:β' j=β i)(hs:sat s' j=(sat s i).hG ρ):gy β' s' j b<->gy β s i b:=by
 unfold gy;rw[hs,hb];cases sat s i<;>simp[Ob.hG]
theorem J9{β β':gZ}{s s':gQ}{i b o:Nat}(hb:β' i=β i)(hs:sat s' i=sat s i):qv β' s' i b o<->qv β s i b o:=by unfold qv;rw[hs,hb]
theorem F5{β β':gZ}{s s':gQ}{i b:Nat}(hb:β' i=β i)(hs:sat s' i=sat s i):gy β' s' i b<->gy β s i b:=by unfold gy;rw[hs,hb]
theorem wv:∀{mp:List fR}{c j:Nat},oA mp c=some j->(c,j)∈mp
 |[],_,_=>fun h=>by simp[oA]at h
 |(c',j')::r,c,j=>fun h=>by
  simp only[oA]at h;split at h
  ·rename_i hc;cases h;subst hc;simp
  ·exact en _ (wv h)
theorem uG:∀{mp:List fR}{c j:Nat},(mp.map (·.1)).Nodup->(c,j)∈mp->oA mp c=some j
 |[],_,_=>fun _ h=>by simp at h
 |(c',j')::r,c,j=>fun hn h=>by
  simp only[aT,bJ]at hn;simp only[oA];rcases bt.1 h with h2|h2
  ·cases h2;simp
  ·have:c≠c':=fun e=>hn.1 (bF.2 ⟨(c,j),h2,e⟩)
   rw[aJ this];exact uG hn.2 h2
theorem Bg:∀{mp:List fR}{c j:Nat},pV mp j=some c->(c,j)∈mp
 |[],_,_=>fun h=>by simp[pV]at h
 |(c',j')::r,c,j=>fun h=>by
  simp only[pV]at h;split at h
  ·rename_i hc;cases h;subst hc;simp
  ·exact en _ (Bg h)
theorem zF{s:gQ}{pr:List fR}:∀{mp:List fR},(mp.map (·.1)).Nodup->∀c,sat (oy s pr mp) c=match oA mp c with|some j=>(sat s j).hG (pV pr)|none=>.dead
 |[],_,c=>rfl
 |(c',j')::r,hn,c=>by
  simp only[aT,bJ]at hn;have ih:=zF (s:=s) (pr:=pr) hn.2 c;simp only[oy,aT,sat,oA]at ih⊢;split
  ·rfl
  ·exact ih
theorem B_{s':gQ}{all:List fR}:∀{mp:List fR}{s:gQ},(mp.map (·.2)).Nodup->∀id,
 sat (tV s s' mp all) id=match pV mp id with|some c=>(sat s' c).hG (oA all)|none=>sat s id
 |[],s,_,id=>rfl
 |(c',j')::r,s,hn,id=>by
  simp only[aT,bJ]at hn;simp only[tV,pV];rw[B_ hn.2];by_cases h:id=j'
  ·subst h;have:pV r id=none:=by
    cases hq:pV r id with
    |none=>rfl
    |some c=>exact absurd (bF.2 ⟨(c,id),Bg hq,rfl⟩) hn.1
   rw[this];simp[iE]
  ·rw[aJ h];cases pV r id with
   |some c=>rfl
   |none=>simp only[iE,aJ h]
theorem xm:∀{mp:List fR}{c j:Nat},(mp.map (·.2)).Nodup->(c,j)∈mp->pV mp j=some c
 |[],_,_=>fun _ h=>by simp at h
 |(c',j')::r,c,j=>fun hn h=>by
  simp only[aT,bJ]at hn;simp only[pV];rcases bt.1 h with h2|h2
  ·cases h2;simp
  ·have:j≠j':=fun e=>hn.1 (bF.2 ⟨(c,j),h2,e⟩)
   rw[aJ this];exact xm hn.2 h2
theorem Ig{β β':gZ}{O:Own}{w:World}{ρ:Nat->Option Nat}(hr:∀i j,ρ i=some j->β' j=β i):∀{xs:List AV}{vs:List Value},AV.iK β O w xs vs->
 AV.iK β' O w (xs.map fun x=>x.hG ρ) vs
 |[],vs=>fun h=>by simpa[AV.iK]using h
 |x::xs,vs=>fun h=>by
  simp only[AV.iK,aT]at h⊢;obtain⟨v,r,h1,h2,h3⟩:=h;exact⟨v,r,h1,AV.xH hr _ _ h2,Ig hr h3⟩
def Q0(E:Ending->Value->Prop)(P:Program)(f:Nat)(args:List AV)(s:gQ)(k:Nat)(R:AV->gQ->Prop):Prop:=
 ∀(C:Ctx)(vs:Array Value),C.s=s->C.k=k->Inv C C.β C.s C.w->AV.iK C.β (C.gO C.β C.s) C.w args vs.toList->
  Calls P f vs C.w fun e w'=>∃v x β' s',E e v/\Inv C β' s' w'/\AV.ok β' (C.gO β' s') w' x v/\R x s'
def Uq(E:Ending->Value->Prop)(P:Program)(k0 f:Nat)(args:List AV)(env:List AV)(s:gQ)(K:AV->List AV->gQ->Prop):Prop:=
 ∃(pr nw:List fR)(R:AV->gQ->Prop),
  pr.map (·.1)=List.range pr.length/\((pr++nw).map (·.1)).Nodup/\((pr++nw).map (·.2)).Nodup/\
  (∀p∈nw,sat s p.2=.dead/\k0<=p.2)/\
  Q0 E P f (args.map fun x=>x.hG (pV pr)) (oy s pr pr) pr.length R/\
  ∀x s',R x s'->K (x.hG (oA (pr++nw))) env (tV s s' (pr++nw) (pr++nw))
theorem Hu{E:Ending->Value->Prop}{P:Program}{C:Ctx}{f:Nat}{args env:List AV}{s:gQ}{K:AV->List AV->gQ->Prop}(hk:Uq E P C.k f args env s K){β:gZ}{a:Act}{w:World}
 (hst:St C β env s a w) {vs:Array Value} (hvs:AV.iK β (C.gO β s) w args vs.toList):
 Calls P f vs w fun e w'=>∃v x β' s',E e v/\St C β' env s' a w'/\AV.ok β' (C.gO β' s') w' x v/\K x env s':=by
 obtain⟨pr,nw,R,hpr,hn1,hn2,hnw,hcall,hR⟩:=hk;have hp1:(pr.map (·.1)).Nodup:=by rw[aP]at hn1;exact(cg.1 hn1).1
 have hp2:(pr.map (·.2)).Nodup:=by rw[aP]at hn2;exact(cg.1 hn2).1
 let βc:gZ:=fun c=>match oA pr c with|some j=>β j|none=>.no
 have hβc:∀c j,(c,j)∈pr->βc c=β j:=fun c j h=>by show(match oA pr c with|some j=>β j|none=>.no)=_;rw[uG hp1 h]
 have hsc:∀c j,(c,j)∈pr->sat (oy s pr pr) c=(sat s j).hG (pV pr):=fun c j h=>by rw[zF hp1,uG hp1 h]
 have hscn:∀c,oA pr c=none->sat (oy s pr pr) c=.dead/\βc c=.no:=fun c h=>by rw[zF hp1,h];exact⟨rfl,by show(match oA pr c with|some j=>β j|none=>.no)=_;rw[h]⟩
 have hownc:∀b o,own βc (oy s pr pr) b o<->∃c j,(c,j)∈pr/\qv β s j b o:=fun b o=>by
  rw[GC];constructor
  ·rintro⟨c,h⟩;cases hq:oA pr c with
   |none=>unfold qv at h;rw[(hscn c hq).1]at h;exact h.elim
   |some j=>have hm:=wv hq;exact⟨c,j,hm,(tT (hβc c j hm) (hsc c j hm)).1 h⟩
  ·rintro⟨c,j,hm,h⟩;exact⟨c,(tT (hβc c j hm) (hsc c j hm)).2 h⟩
 have hblkc:∀c b,gy βc (oy s pr pr) c b->∃j,(c,j)∈pr/\gy β s j b:=fun c b h=>by
  cases hq:oA pr c with
  |none=>unfold gy at h;rw[(hscn c hq).1]at h;exact h.elim
  |some j=>have hm:=wv hq;exact⟨j,hm,(xC (hβc c j hm) (hsc c j hm)).1 h⟩
 let C':Ctx:={O:=fun b o=>C.O b o\/∃id,(∀c,(c,id)∉pr)/\qv β s id b o,β:=βc,s:=oy s pr pr,w:=w,k:=pr.length};have hOown:∀b o,C.O b o->¬own β s b o:=fun b o h1 h2=>by
  have:=hst.inv.low b o h1;rcases hst.inv.sK b o h2 with h3|h3
  ·exact this.2 h3
  ·omega
 have hforb:∀b o,C'.gO βc (oy s pr pr) b o<->C.gO β s b o:=fun b o=>by
  constructor
  ·rintro((h|⟨id,_,h⟩)|h)
   ·exact .inl h
   ·exact .inr ⟨id,h⟩
   ·obtain⟨c,j,_,h⟩:=(hownc b o).1 h;exact .inr ⟨j,h⟩
  ·rintro(h|⟨id,h⟩)
   ·exact .inl (.inl h)
   ·by_cases hq:∃c,(c,id)∈pr
    ·obtain⟨c,hc⟩:=hq;exact .inr ((hownc b o).2 ⟨c,id,hc,h⟩)
    ·exact .inl (.inr ⟨id,fun c hc=>hq ⟨c,hc⟩,h⟩)
 have hforbE:C'.gO βc (oy s pr pr)=C.gO β s:=by funext b o;exact propext (hforb b o)
 have hinρ:∀i j,pV pr i=some j->βc j=β i:=fun i j h=>hβc j i (Bg h)
 have hInv:Inv C' C'.β C'.s C'.w:=by
  refine⟨aO _,rfl,fun _ _ _ h _=>h,fun _ _ _=>rfl,fun _ _ h=>.inl h,fun id b h=>.inl ⟨id,h⟩,fun _ _=>.refl _,?_,?_,?_⟩
  ·rintro b o (h|⟨id,hid,h⟩)
   ·refine⟨eE (hst.inv.low b o h).1 hst.inv.size,fun h2=>?_⟩;obtain⟨c,j,_,h3⟩:=(hownc b o).1 h2;exact hOown b o h ⟨j,h3⟩
   ·refine⟨hst.inv.qo h.block,fun h2=>?_⟩;obtain⟨c,j,hm,h3⟩:=(hownc b o).1 h2;have:=hst.inv.inj id j b h.block h3.block;subst this;exact hid c hm
  ·intro c;show vO βc (C'.gO βc (oy s pr pr)) w c (sat (oy s pr pr) c);rw[hforbE];cases hq:oA pr c with
   |none=>rw[(hscn c hq).1];exact(hscn c hq).2
   |some j=>
    have hm:=wv hq;rw[hsc c j hm];have ho:=hst.inv.obs j;cases hs:sat s j with
    |dead=>rw[hs]at ho;exact(hβc c j hm).trans ho
    |obj t cs=>
     rw[hs]at ho;obtain⟨b,us,h1,h2,h3,h4⟩:=ho;exact⟨b,us,by rw[hβc c j hm,h1],h2,h3,h4.imp fun _ h=>AV.xz hinρ _ _ h⟩
    |tok t e n=>
     rw[hs]at ho;obtain⟨u,h1,h2⟩:=ho;exact⟨u,by rw[hβc c j hm,h1],h2⟩
    |lO t e n cs=>
     rw[hs]at ho;obtain⟨u,h1,h2⟩:=ho;exact⟨u,by rw[hβc c j hm,h1],h2⟩
    |jj t e n cs=>
     rw[hs]at ho;obtain⟨u,bs,h1,h0,h2⟩:=ho;refine⟨u,bs,by rw[hβc c j hm,h1],h0,?_⟩;rw[lW];exact h2.imp (fun x v=>pL fun hx=>AV.xH hinρ _ _ hx) (fun _ _=>rfl) (fun _ _ _=>rfl)
    |oU e n cs=>
     rw[hs]at ho;obtain⟨u,bs,h1,h0,h2⟩:=ho;refine⟨u,bs,by rw[hβc c j hm,h1],h0,?_⟩;rw[lW];exact h2.imp (fun x v=>pL fun hx=>AV.xH hinρ _ _ hx) (fun _ _=>rfl) (fun _ _ _ _=>rfl)
    |mp P k es=>
     rw[hs]at ho;obtain⟨b,h1,h2⟩:=ho;exact⟨b,by rw[hβc c j hm,h1],h2⟩
  ·intro i i' b h1 h2;obtain⟨j,hm,h3⟩:=hblkc i b h1;obtain⟨j',hm',h4⟩:=hblkc i' b h2;have:=hst.inv.inj j j' b h3 h4;subst this;have e1:=xm hp2 hm;have e2:=xm hp2 hm';rw[e1]at e2;cases e2;rfl
 refine(hcall C' vs rfl rfl hInv (by show AV.iK βc (C'.gO βc (oy s pr pr)) w _ _;rw[hforbE];exact Ig hinρ hvs)).mono ?_;rintro e w' ⟨v,x,β',s',hE,hi',hx,hr⟩;let βr:gZ:=fun id=>match pV (pr++nw) id with|some c=>β' c|none=>β id
 have hmem:∀c j,(c,j)∈pr++nw->βr j=β' c/\sat (tV s s' (pr++nw) (pr++nw)) j=(sat s' c).hG (oA (pr++nw)):=fun c j h=>by
  have hq:=xm hn2 h;exact⟨by show(match pV (pr++nw) j with|some c=>β' c|none=>β j)=_;rw[hq],by rw[B_ hn2,hq]⟩
 have hnot:∀j,(∀c,(c,j)∉pr++nw)->βr j=β j/\sat (tV s s' (pr++nw) (pr++nw)) j=sat s j:=fun j h=>by
  have hq:pV (pr++nw) j=none:=by
   cases hq:pV (pr++nw) j with
   |none=>rfl
   |some c=>exact absurd (Bg hq) (h c)
  exact⟨by show(match pV (pr++nw) j with|some c=>β' c|none=>β j)=_;rw[hq],by rw[B_ hn2,hq]⟩
 have hcase:∀j,(∃c,(c,j)∈pr++nw)\/∀c,(c,j)∉pr++nw:=fun j=>by
  by_cases h:∃c,(c,j)∈pr++nw
  ·exact .inl h
  ·exact .inr fun c hc=>h ⟨c,hc⟩
 have hblk1:∀c j b,(c,j)∈pr++nw->(gy βr (tV s s' (pr++nw) (pr++nw)) j b<->gy β' s' c b):=fun c j b h=>xC (hmem c j h).1 (hmem c j h).2
 have hown1:∀c j b o,(c,j)∈pr++nw->(qv βr (tV s s' (pr++nw) (pr++nw)) j b o<->qv β' s' c b o):=fun c j b o h=>tT (hmem c j h).1 (hmem c j h).2
 have hblk2:∀j b,(∀c,(c,j)∉pr++nw)->(gy βr (tV s s' (pr++nw) (pr++nw)) j b<->gy β s j b):=fun j b h=>F5 (hnot j h).1 (hnot j h).2
 have hown2:∀j b o,(∀c,(c,j)∉pr++nw)->(qv βr (tV s s' (pr++nw) (pr++nw)) j b o<->qv β s j b o):=fun j b o h=>J9 (hnot j h).1 (hnot j h).2
 have hpsub:∀j,(∀c,(c,j)∉pr++nw)->∀c,(c,j)∉pr:=fun j h c hc=>h c (cu _ hc)
 have hnewdead:∀c j,(c,j)∈nw->sat s j=.dead/\β j=.no:=fun c j h=>by
  have h1:=(hnw _ h).1;have:=hst.inv.obs j;rw[h1]at this;exact⟨h1,this⟩
 have m:mu β s w βr (tV s s' (pr++nw) (pr++nw)) w':=by
  refine⟨hi'.size,hi'.io,fun b o v hc hno=>hi'.keep b o v hc fun h=>?_,fun b hb hno=>hi'.vr b hb fun c h=>?_,fun b o ho=>?_,fun j b hb=>?_,fun j=>?_⟩
  ·obtain⟨c,j,_,h⟩:=(hownc b o).1 h;exact hno ⟨j,h⟩
  ·obtain⟨j,_,h⟩:=hblkc c b h;exact hno j h
  ·obtain⟨j,hj⟩:=GC.1 ho;rcases hcase j with⟨c,hc⟩|hc
   ·rcases hi'.sK b o ⟨c,(hown1 c j b o hc).1 hj⟩with h|h
    ·obtain⟨c',j',_,h⟩:=(hownc b o).1 h;exact .inl ⟨j',h⟩
    ·exact .inr h
   ·exact .inl ⟨j,(hown2 j b o hc).1 hj⟩
  ·rcases hcase j with⟨c,hc⟩|hc
   ·rcases hi'.uW c b ((hblk1 c j b hc).1 hb)with⟨i,h⟩|h
    ·obtain⟨j',_,h⟩:=hblkc i b h;exact .inl ⟨j',h⟩
    ·exact .inr h
   ·exact .inl ⟨j,(hblk2 j b hc).1 hb⟩
  ·rcases hcase j with⟨c,hc⟩|hc
   ·rw[(hmem c j hc).1];rcases aG.1 hc with hc|hc
    ·have hlt:c<pr.length:=by
      have:c∈pr.map (·.1):=bF.2 ⟨(c,j),hc,rfl⟩;rw[hpr]at this;exact bY.1 this
     have:=hi'.pl c hlt;rwa [show C'.β c=β j from hβc c j hc]at this
    ·rw[(hnewdead c j hc).2];trivial
   ·rw[(hnot j hc).1];exact .refl _
 have hforb':∀b o,C.gO βr (tV s s' (pr++nw) (pr++nw)) b o->C'.gO β' s' b o:=fun b o h=>by
  rcases h with h|h
  ·exact .inl (.inl h)
  ·obtain⟨j,hj⟩:=GC.1 h;rcases hcase j with⟨c,hc⟩|hc
   ·exact .inr ⟨c,(hown1 c j b o hc).1 hj⟩
   ·exact .inl (.inr ⟨j,hpsub j hc,(hown2 j b o hc).1 hj⟩)
 have hback:∀y u,AV.ok β' (C'.gO β' s') w' y u->AV.ok βr (C.gO βr (tV s s' (pr++nw) (pr++nw))) w' (y.hG (oA (pr++nw))) u:=fun y u h=>by
  have h1:=AV.xH (β':=βr) (ρ:=oA (pr++nw)) (fun i j hij=>(hmem i j (wv hij)).1) y u h;exact AV.ke (fun b o v hc hno=>⟨hc,fun h=>hno (hforb' b o h)⟩) (fun _=>.refl _) _ _ h1
 have hbacks:∀ys us,AV.iK β' (C'.gO β' s') w' ys us->AV.iK βr (C.gO βr (tV s s' (pr++nw) (pr++nw))) w' (AV.gY (oA (pr++nw)) ys) us:=fun y u h=>by
  have h1:=AV.xz (β':=βr) (ρ:=oA (pr++nw)) (fun i j hij=>(hmem i j (wv hij)).1) y u h;exact AV.kj (fun b o v hc hno=>⟨hc,fun h=>hno (hforb' b o h)⟩) (fun _=>.refl _) _ _ h1
 refine⟨v,_,βr,_,hE,hst.move m (fun j=>?_) (fun i j b h1 h2=>?_),hback x v hx,hR x s' hr⟩
 ·rcases hcase j with⟨c,hc⟩|hc
  ·rw[(hmem c j hc).2];have ho:=hi'.obs c;cases hs:sat s' c with
   |dead=>rw[hs]at ho;exact(hmem c j hc).1.trans ho
   |obj t cs=>
    rw[hs]at ho;obtain⟨b,us,h1,h2,h3,h4⟩:=ho;exact⟨b,us,by rw[(hmem c j hc).1,h1],h2,h3,h4.imp fun _ h=>hbacks _ _ h⟩
   |tok t e n=>
    rw[hs]at ho;obtain⟨u,h1,h2⟩:=ho;exact⟨u,by rw[(hmem c j hc).1,h1],h2⟩
   |lO t e n cs=>
    rw[hs]at ho;obtain⟨u,h1,hl,h2⟩:=ho;refine⟨u,by rw[(hmem c j hc).1,h1],hl,?_⟩;rcases h2 with h2|⟨b,cap,vs,h2,h3,h4,h5,h6,h7,pre,rest,h8,h9⟩
    ·exact .inl h2
    ·exact .inr ⟨b,cap,vs,h2,h3,h4,h5,h6,h7,pre,rest,h8,D.kj (fun b o v hc hno=>⟨hc,fun h=>hno (hforb' b o h)⟩) _ _ h9⟩
   |jj t e n cs=>
    rw[hs]at ho;obtain⟨u,bs,h1,h0,h2⟩:=ho;refine⟨u,bs,by rw[(hmem c j hc).1,h1],h0,?_⟩;rw[lW];exact h2.imp (fun x v=>pL (hback x v)) (fun _ _=>rfl) (fun _ _ _=>rfl)
   |oU e n cs=>
    rw[hs]at ho;obtain⟨u,bs,h1,h0,h2⟩:=ho;refine⟨u,bs,by rw[(hmem c j hc).1,h1],h0,?_⟩;rw[lW];exact h2.imp (fun x v=>pL (hback x v)) (fun _ _=>rfl) (fun _ _ _ _=>rfl)
   |mp P k es=>
    rw[hs]at ho;obtain⟨b,h1,h2⟩:=ho;exact⟨b,by rw[(hmem c j hc).1,h1],h2.imp rfl fun x v h=>D.ke (fun b o v hc hno=>⟨hc,fun h=>hno (hforb' b o h)⟩) _ _ h⟩
  ·rw[(hnot j hc).2];refine(hst.inv.obs j).sJ m (hnot j hc).1 (fun b hb=>hi'.vr b (hst.inv.qo hb) fun c h=>?_) rfl;obtain⟨j',hm,h⟩:=hblkc c b h;have:=hst.inv.inj j j' b hb h;subst this;exact hpsub j hc c hm
 ·have key:∀c i j,(c,i)∈pr++nw->(∀c,(c,j)∉pr++nw)->gy β' s' c b->gy β s j b->False:=by
   intro c i j hc hj h3 h4;rcases hi'.uW c b h3 with⟨c',h5⟩|h5
   ·obtain⟨j',hm,h5⟩:=hblkc c' b h5;have:=hst.inv.inj j j' b h4 h5;subst this;exact hpsub j hj c' hm
   ·have:=hst.inv.qo h4;exact absurd this (Nat.not_lt.2 h5)
  rcases hcase i with⟨c,hc⟩|hc<;>rcases hcase j with⟨c',hc'⟩|hc'
  ·have:=hi'.inj c c' b ((hblk1 c i b hc).1 h1) ((hblk1 c' j b hc').1 h2);subst this;have e1:=uG hn1 hc;have e2:=uG hn1 hc';rw[e1]at e2;cases e2;rfl
  ·exact(key c i j hc hc' ((hblk1 c i b hc).1 h1) ((hblk2 j b hc').1 h2)).elim
  ·exact(key c' j i hc' hc ((hblk1 c' j b hc').1 h2) ((hblk2 i b hc).1 h1)).elim
  ·exact hst.inv.inj i j b ((hblk2 i b hc).1 h1) ((hblk2 j b hc').1 h2)
theorem Jo{P:Program}{C:Ctx}{f:Nat}{args env:List AV}{s:gQ}{K:AV->List AV->gQ->Prop}(hk:KW P C.k f args env s K){β:gZ}{a:Act}{w:World}
 (hst:St C β env s a w) {vs:Array Value} (hvs:AV.iK β (C.gO β s) w args vs.toList):
 Calls P f vs w fun e w'=>∃v x β' s',e=.returned v/\St C β' env s' a w'/\AV.ok β' (C.gO β' s') w' x v/\K x env s':=
 Hu (E:=fun e v=>e=.returned v) hk hst hvs
theorem zJ{P:Program}{k0 f:Nat}{args env:List AV}{s:gQ}{K:AV->List AV->gQ->Prop}(h:KW P k0 f args env s K):Cn P k0 f args env s K:=fun C β a w vs hC hst hvs=>by
 subst hC;exact(Jo h hst hvs).mono fun e w' ⟨v,x,β',s',h1,h2,h3,h4⟩=>⟨v,x,β',env,s',h1,h2,h3,h4⟩
theorem Jn{P:Program}{k0 f:Nat}{args env:List AV}{s:gQ}{K K':AV->List AV->gQ->Prop}(h:Cn P k0 f args env s K)(hK:∀x env s,K x env s->K' x env s):
 Cn P k0 f args env s K':=fun C β a w vs hC hst hvs=>(h C β a w vs hC hst hvs).mono fun _ _ ⟨v,x,β',env',s',h1,h2,h3,h4⟩=>⟨v,x,β',env',s',h1,h2,h3,hK _ _ _ h4⟩
theorem HW{α:Type}:∀(ks:List Lit)(E:List (Lit×α)),E.Pairwise (fun p q=>p.1≠q.1)->(∀p∈E,p.1∈ks)->E.length<=ks.length
 |[],E,_,h=>by cases E with
  |nil=>simp
  |cons p r=>exact absurd (h p (by simp)) (by simp)
 |x::ks,E,hp,hs=>by
  have h1:=HW ks (E.filter fun p=>!decide (p.1=x)) (hp.filter _) fun p hp'=>by
   have h2:=dm.1 hp';have h3:=hs p h2.1;simp only[bt]at h3;rcases h3 with h3|h3
   ·simp[h3]at h2
   ·exact h3
  have h2:∀(E:List (Lit×α)),E.Pairwise (fun p q=>p.1≠q.1)->E.length<=(E.filter fun p=>!decide (p.1=x)).length+1:=by
   intro E;induction E with
   |nil=>intro _;simp
   |cons p r ihr=>
    intro hp;rw[di]at hp;by_cases hx:p.1=x
    ·have:r.filter (fun p=>!decide (p.1=x))=r:=List.filter_eq_self.2 fun q hq=>by
      have:=hp.1 q hq;rw[hx]at this;simpa using fun e=>this e.symm
     rw[fC];simp[hx,this]
    ·rw[fC];have:=ihr hp.2;simp[hx];omega
  have:=h2 E hp;simp only[aK];omega
theorem yQ.size{O:Own}{w:World}{P:Program}{k:Nat}{es:List (Lit×D)}{E:DataW Value}{b n:Nat}(K:Maps.Keyed P k)(h1:w.ownsMap P k Bf b n E)
 (h2:∀kl,match tZ es kl with
  |none=>Maps.has E kl=false
  |some x=>∃v,(∀z,E.atKey kl z=.held v)/\one v=true/\D.ok O w x v):Maps.size E<=es.length:=by
 have ht:=h1.tidy K;obtain⟨es0,clock,hb,F,hn,hE⟩:=h1;obtain⟨ps,hps,hp⟩:=ht;subst hE;cases hps;rw[Maps.size_eq];have:=HW (es.map (·.1)) _ hp fun p hp'=>?_
 ·simpa using this
 ·have:=h2 p.1;cases hm:tZ es p.1 with
  |some x=>exact H_ hm
  |none=>
   rw[hm]at this;rw[Maps.has_eq,dY]at this;have h3:=this p hp';have h4:=Maps.fit_keys F p ((WideShapes.sorted_perm _).mem_iff.1 hp');obtain⟨v,hv⟩:=h4;rw[WideAt.sameKey_self (K.key hv)]at h3;exact absurd rfl h3
theorem Fy{w:World}{P:Program}{k:Nat}{E:DataW Value}{b n:Nat}(h1:w.ownsMap P k Bf b n E):w.ownsMap P k Bf b (Maps.size E) E:=by
 obtain⟨es0,clock,hb,F,hn,rfl⟩:=h1;exact⟨es0,clock,hb,F,by simp[Maps.size,length_sorted],rfl⟩
theorem St.Pf{C:Ctx}{β:gZ}{env:List AV}{s:gQ}{a:Act}{w w':World}(h:St C β env s a w){id b k:Nat}{P:Program}{es es':List (Lit×D)}(hs:sat s id=.mp P k es)(hβ:β id=.CU b)
 (hg:w.grownBy w' (some b)) (hok:∀O,(∀x v,D.ok (C.gO β s) w x v->D.ok O w' x v)->yQ O w' P k es' b):St C β env (sset s id (.mp P k es')) a w':=by
 obtain⟨xs,c,hm⟩:∃xs c,w.heap[b]?=some (.map xs c):=by
  have:=h.inv.obs id;rw[hs]at this;obtain⟨b',h1,h2⟩:=this;rw[hβ]at h1;cases h1;exact h2.block
 have hblk:∀i b',gy β (sset s id (.mp P k es')) i b'<->gy β s i b':=fun i b'=>by
  unfold gy;rw[iE];by_cases hi:i=id
  ·subst hi;rw[hs];simp
  ·simp only[hi,ay]
 have hown:∀b' o,own β (sset s id (.mp P k es')) b' o<->own β s b' o:=fun b' o=>by
  unfold own;refine eS fun i=>?_
  rw[iE];by_cases hi:i=id
  ·subst hi;rw[hs];simp
  ·simp only[hi,ay]
 have hid:gy β s id b:=by unfold gy;rw[hs];exact hβ
 have m:mu β s w β (sset s id (.mp P k es')) w':=by
  refine⟨hg.size,by simp only[EL,hg.os,hg.tape,hg.output],fun b' o v hc _=>?_,fun b' hb' hno=>hg.block b' hb' fun e=>?_,fun b' o ho=>.inl ((hown b' o).1 ho),fun i b' hb'=>.inl ⟨i,(hblk i b').1 hb'⟩,fun _=>.refl _⟩
  ·rw[<-hc];refine cF (hg.block b' (uZ hc) fun e=>?_);cases e;simp only[World.cell?,hm]at hc;cases hc
  ·cases e;exact hno id hid
 refine h.move m (fun i=>?_) fun i j b' hi hj=>h.inv.inj i j b' ((hblk i b').1 hi) ((hblk j b').1 hj)
 rw[iE];by_cases hi:i=id
 ·subst hi;simp only[aj];exact⟨b,hβ,hok _ fun x v hx=>D.ke m.stays _ _ hx⟩
 ·simp only[hi,ay];exact(h.inv.obs i).sJ m rfl (fun b' hb'=>hg.block b' (h.inv.qo hb') fun e=>by cases e;exact hi (h.inv.inj i id b hb' hid)) rfl
section
variable{P:Program}{C:Ctx}{o:Oper}{env:List AV}{s:gQ}{k:List AV->gQ->Prop}
theorem B6{t k0 e:Nat}(h:Gs P t=some (k0,e)):P.underlying t=some (.map k0 e):=by
 unfold Gs at h;split at h
 ·rename_i h2;cases h;exact h2
 ·cases h
theorem B4{k0:Nat}{kd:Option IntKind}(h:HV P k0=some kd):Maps.Keyed P k0/\∀v,uT kd v->keyOf P k0 v=some (sI v):=by
 unfold HV at h;split at h
 ·rename_i hu;cases h;refine⟨Maps.string_keyed hu,fun v hv=>?_⟩;cases v<;>simp[uT]at hv
  exact WideMaps.keyOf_string_mk hu hv
 ·rename_i q hu;cases h;refine⟨Maps.int_keyed hu,fun v hv=>?_⟩;cases v<;>simp[uT]at hv
  obtain⟨rfl,hv⟩:=hv;exact Maps.keyOf_int_mk hu hv
 ·cases h
theorem Pv{β:gZ}{O:Own}{w:World}{id:Nat}{v:Value}(h:AV.ok β O w (.mp id) v):∃b,β id=.CU b/\v=.map (some b):=by simpa only[AV.ok]using h
theorem St.Pe{β:gZ}{a:Act}{w:World}(h:St C β env s a w){id k0:Nat}{es:List (Lit×D)}(hs:sat s id=.mp P k0 es){b:Nat}(hb:β id=.CU b):yQ (C.gO β s) w P k0 es b:=by
 have:=h.inv.obs id;rw[hs]at this;obtain⟨b',h1,h2⟩:=this;rw[hb]at h1;cases h1;exact h2
theorem SB{d t k0 e:Nat}(hop:o.op=.makeMap t none)(hk:uM C.k d env s fun env s _=>k (iU o.dst env (.mp d)) (sset s d (.mp P k0 []))):mU P C o env s k:=by
 refine .value fun β a w hst=>?_
 obtain⟨β1,env1,s1,f,hst1,hd,hk1,hf,_⟩:=pQ hk hst;obtain⟨β2,hst2,m,hp⟩:=hst1.UW hd P k0;exact⟨_,_,β2,env1,_,.mp d,by simp[execOp,hop,Instr.makeMap],hst2,hp,hk1⟩
theorem Vd{t k0 e:Nat}{kd:Option IntKind}{u:Value}{ok:Bool}{m x:Operand}(hop:o.op=.lookup t m x ok)(ht:Gs P t=some (k0,e))(hkd:HV P k0=some kd)(hz:Ky P e=some u)
 {id:Nat} {es:List (Lit×D)} {kv:Value} (hm:ev env m=.mp id) (hx:ev env x=.d (.lit kv)) (hs:sat s id=.mp P k0 es) (hkv:uT kd kv)
 (hk:k (iU o.dst env (B5 ok (cD u) (tZ es (sI kv)))) s):mU P C o env s k:=by
 refine .pure (fun β a w hst=>?_) hk;have hu:=B6 ht;obtain⟨K,hkey⟩:=B4 hkd;have h1:=hst.ev m;rw[hm]at h1;obtain⟨b,hb,h1⟩:=Pv h1;have h2:=hst.ev x;rw[hx]at h2;have h2:=ow h2;obtain⟨E,hE,hrel⟩:=hst.Pe hs hb;obtain⟨i,hi,hzu,hru⟩:∃i,P.info? e=some i/\i.zero=some u/\one u=true:=by
  unfold Ky at hz;simp only[ai]at hz;obtain⟨i,hi,u',hu',hz⟩:=hz;split at hz
  ·rename_i h1;cases hz;exact⟨i,hi,hu',h1⟩
  ·cases hz
 have hzr:(zeroValue e).run P w=.ok u w:=by simp[zeroValue,typeInfo,hi,hzu]
 have hzok:one u=true/\D.ok (C.gO β s) w (cD u) u:=⟨hru,Hq _ hru⟩;have hrl:=hrel (sI kv);have main:∃v,one v=true/\D.ok (C.gO β s) w ((tZ es (sI kv)).getD (cD u)) v/\(Instr.lookup t (.map (some b)) kv ok).run P w=.ok (if ok then .tuple #[v,.bool (tZ es (sI kv)).isSome]else v) w:=by
  cases hg:tZ es (sI kv)with
  |none=>
   rw[hg]at hrl;refine⟨u,hzok.1,hzok.2,?_⟩;cases ok with
   |true=>
    obtain⟨v,ps,hrun,hv⟩:=hE.look_ok K hu hzr (zd:=.held u) (zp:=[]) rfl (hkey kv hkv);rw[Maps.atKey_of_not_has hrl]at hv;simp only[Bf,aM,cI,eV]at hv;rw[hrun,hv.1,hrl];rfl
   |false=>
    obtain⟨v,ps,hrun,hv⟩:=hE.lookup K hu hzr (zd:=.held u) (zp:=[]) rfl (hkey kv hkv);rw[Maps.atKey_of_not_has hrl]at hv;simp only[Bf,aM,cI,eV]at hv;rw[hrun,hv.1];rfl
  |some y=>
   rw[hg]at hrl;obtain⟨v0,k1,k2,k3⟩:=hrl;refine⟨v0,k2,k3,?_⟩;cases ok with
   |true=>
    obtain⟨v,ps,hrun,hv⟩:=hE.look_ok K hu hzr (zd:=.held u) (zp:=[]) rfl (hkey kv hkv);rw[k1]at hv;simp only[Bf,aM,cI,eV]at hv;rw[hrun,hv.1,Maps.has_true_of_atKey k1];rfl
   |false=>
    obtain⟨v,ps,hrun,hv⟩:=hE.lookup K hu hzr (zd:=.held u) (zp:=[]) rfl (hkey kv hkv);rw[k1]at hv;simp only[Bf,aM,cI,eV]at hv;rw[hrun,hv.1];rfl
 obtain⟨v,ho,hd,hrun⟩:=main;refine⟨if ok then .tuple #[v,.bool (tZ es (sI kv)).isSome]else v,by simp only[execOp,hop,h1,h2,aR,hrun,aF,a_],?_⟩;cases ok with
 |true=>
  simp only[B5,aj,AV.ok];exact⟨_,rfl,by simp only[AV.iK,AV.ok];exact⟨_,_,rfl,hd,_,_,rfl,by simp[D.ok,one],rfl⟩⟩
 |false=>simpa[B5,AV.ok]using hd
theorem Mq{O:Own}{w:World}{d:D}{v:Value}(h:Ay d=false)(h1:D.ok O w d v):one v=true:=by
 cases d with
 |any=>exact h1
 |lit u=>obtain⟨rfl,h2⟩:=(by simpa only[D.ok]using h1:v=u/\one u=true);exact h2
 |sl e nl xs=>simp only[D.ok]at h1;obtain⟨a,cap,rfl,_⟩:=h1;rfl
 |agg cs=>cases h
theorem Vh{t k0 e:Nat}{kd:Option IntKind}{m x v:Operand}(hop:o.op=.mapUpdate t m x v)(ht:Gs P t=some (k0,e))(hkd:HV P k0=some kd)
 {id:Nat} {es:List (Lit×D)} {kv:Value} {d:D} (hm:ev env m=.mp id) (hx:ev env x=.d (.lit kv)) (hv:(ev env v).fin=some d) (hs:sat s id=.mp P k0 es) (hkv:uT kd kv) (hl:es.length<2^40) (hag:Ay d=false)
 (hk:k (iU o.dst env .iN) (sset s id (.mp P k0 ((sI kv,d)::es)))):mU P C o env s k:=by
 refine .skip fun β a w hst=>?_
 have hu:=B6 ht;obtain⟨K,hkey⟩:=B4 hkd;have h1:=hst.ev m;rw[hm]at h1;obtain⟨b,hb,h1⟩:=Pv h1;have h2:=hst.ev x;rw[hx]at h2;have h2:=ow h2;have h3:=Dy (hst.ev v) hv;have h4:one (a.eval v)=true:=Mq hag h3;obtain⟨E,hE,hrel⟩:=hst.Pe hs hb;have hsz:=yQ.size K hE hrel;obtain⟨w',hrun,hE',hg⟩:=hE.update K hu (by unfold maxLen;omega) (key:=kv) (val:=a.eval v) (d:=.held (a.eval v)) (ps:=[]) (hkey kv hkv) rfl;have hst':=hst.Pf hs hb hg (es':=(sI kv,d)::es) fun O hO=>⟨_,Fy hE',fun kl=>by
  by_cases hkl:kl=sI kv
  ·subst hkl;simp only[tZ,aj];exact⟨a.eval v,fun z=>Maps.atKey_put_same hE.isMap (K.key (hkey kv hkv)) _ _,h4,hO _ _ h3⟩
  ·have hne:¬sI kv=kl:=fun e=>hkl e.symm
   simp only[tZ,hne,ay];have:=hrel kl;cases hg:tZ es kl with
   |none=>rw[hg]at this;simp only;rw[Maps.has_put_other hkl];exact this
   |some y=>
    rw[hg]at this;obtain⟨v0,k1,k2,k3⟩:=this;exact⟨v0,fun z=>by rw[Maps.atKey_put_other hkl];exact k1 z,k2,hO _ _ k3⟩⟩
 exact⟨w',β,env,_,by simp only[execOp,hop,h1,h2,aR,hrun,aF,a_],hst',hk⟩
theorem Ve{c:Call}(hop:o.op=.call c)(hc:c.callee=.builtin .delete){m x:Operand}(ha:c.args=#[m,x]){t k0 e:Nat}(hat:c.argTypes=#[t,k0]){kd:Option IntKind}(ht:Gs P t=some (k0,e))(hkd:HV P k0=some kd)
 {id:Nat} {es:List (Lit×D)} {kv:Value} (hm:ev env m=.mp id) (hx:ev env x=.d (.lit kv)) (hs:sat s id=.mp P k0 es) (hkv:uT kd kv)
 (hk:k (iU o.dst env (.oz [])) (sset s id (.mp P k0 (AB (sI kv) es)))):mU P C o env s k:=by
 refine .value fun β a w hst=>?_
 have hu:=B6 ht;obtain⟨K,hkey⟩:=B4 hkd;have h1:=hst.ev m;rw[hm]at h1;obtain⟨b,hb,h1⟩:=Pv h1;have h2:=hst.ev x;rw[hx]at h2;have h2:=ow h2;obtain⟨E,hE,hrel⟩:=hst.Pe hs hb;obtain⟨w',hrun,hE',hg⟩:=hE.drop K hu (key:=kv) (hkey kv hkv) 0;have hst':=hst.Pf hs hb hg.grown (es':=AB (sI kv) es) fun O hO=>⟨_,Fy hE',fun kl=>by
  rw[Ft];by_cases hkl:kl=sI kv
  ·subst hkl;simp only[aj];exact Maps.has_del_same
  ·simp only[hkl,ay];have:=hrel kl;cases hg:tZ es kl with
   |none=>rw[hg]at this;simp only;rw[Maps.has_del_other hkl];exact this
   |some y=>
    rw[hg]at this;obtain⟨v0,k1,k2,k3⟩:=this;exact⟨v0,fun z=>by rw[Maps.atKey_del_other hkl];exact k1 z,k2,hO _ _ k3⟩⟩
 have hty:∀ty,Builtin.delete_ #[t,k0] ty #[.map (some b),kv]=Builtin.delete_ #[t,k0] 0 #[.map (some b),kv]:=fun _=>rfl
 exact⟨.tuple #[],w',β,env,_,.oz [],by simp[execOp,hop,resolve,hc,ha,hat,invoke,builtin,h1,h2,hty,hrun],hst',by simp[AV.ok,AV.iK],hk⟩
end
theorem D.x_{O:Own}{w:World}{xs:List D}{vs:List Value}(h:D.iK O w xs vs)(q:Nat):D.iK O w (xs.take q) (vs.take q):=by
 rw[D.kM]at h⊢;refine⟨by simp[h.1],fun i x v hx hv=>?_⟩;rw[bL]at hx hv;split at hx
 ·rename_i hq;rw[aE hq]at hv;exact h.2 i x v hx hv
 ·cases hx
theorem Inv.X4{C:Ctx}{β:gZ}{s:gQ}{w:World}(h:Inv C β s w)(j:Nat)(hj:C.k<=j){β2:gZ}{s2:gQ}(hβ:∀i,i≠j->β2 i=β i)(hs:∀i,i≠j->sat s2 i=(sat s i).kill j)
 (hown:∀b o,own β2 s2 b o->own β s b o) (hblk:∀i b,gy β2 s2 i b->gy β s i b) (hob:vO β2 (C.gO β2 s2) w j (sat s2 j)):
 Inv C β2 s2 w/\∀{x:AV}{v:Value},AV.ok β (C.gO β s) w x v->AV.ok β2 (C.gO β2 s2) w (x.hG (gC j)) v:=by
 have ko:∀{x:AV}{v:Value},AV.ok β (C.gO β s) w x v->AV.ok β2 (C.gO β2 s2) w (x.hG (gC j)) v:=fun{x v} hx=>by
  have h1:AV.ok β2 (C.gO β s) w (x.hG (gC j)) v:=AV.xH (fun i q hij=>by
   unfold gC at hij;split at hij
   ·cases hij
   ·rename_i hne;cases hij;rw[hβ i hne]) x v hx
  exact AV.ke (fun b o v hc hn=>⟨hc,fun h=>hn (h.imp (fun x=>x) (hown b o))⟩) (fun _=>.refl _) _ _ h1
 have kos:∀{xs:List AV}{vs:List Value},AV.iK β (C.gO β s) w xs vs->AV.iK β2 (C.gO β2 s2) w (AV.gY (gC j) xs) vs:=by
  intro xs;induction xs with
  |nil=>intro vs h;simpa[AV.gY,AV.iK]using h
  |cons x xs ih=>
   intro vs h;simp only[AV.gY,AV.iK]at h⊢;obtain⟨v,r,h1,h2,h3⟩:=h;exact⟨v,r,h1,ko h2,ih h3⟩
 have kd:∀{xs:List D}{vs:List Value},D.iK (C.gO β s) w xs vs->D.iK (C.gO β2 s2) w xs vs:=fun{xs vs} h=>
  D.kj (fun b o _ hc hn=>⟨hc,fun h=>hn (h.imp (fun x=>x) (hown b o))⟩) xs vs h
 refine⟨⟨h.size,h.io,h.keep,h.vr,fun b o ho=>h.sK b o (hown b o ho),fun id b hb=>h.uW id b (hblk id b hb),fun i hi=>?_,h.low,fun i=>?_,fun i q b hi hq=>h.inj i q b (hblk i b hi) (hblk q b hq)⟩,ko⟩
 ·rw[hβ i gu];exact h.pl i hi
 ·by_cases hi:i=j
  ·subst hi;exact hob
  ·rw[hs i hi];have ho:=h.obs i;have hb:=hβ i hi;cases hq:sat s i with
   |dead=>rw[hq]at ho;simp only[Ob.kill,vO]at ho⊢;rw[hb];exact ho
   |obj t cs=>
    rw[hq]at ho;obtain⟨b,vs,h1,h2,h0,h3⟩:=ho;exact⟨b,vs,by rw[hb];exact h1,h2,h0,h3.imp fun _ h=>kos h⟩
   |tok t e n=>
    rw[hq]at ho;obtain⟨u,h1,h2⟩:=ho;exact⟨u,by rw[hb];exact h1,h2⟩
   |lO t e n cs=>
    rw[hq]at ho;obtain⟨u,h1,hl,h2⟩:=ho;refine⟨u,by rw[hb];exact h1,hl,?_⟩;rcases h2 with h2|⟨b,cap,vs,h2,h3,h4,h5,h6,h7,pre,rest,h8,h9⟩
    ·exact .inl h2
    ·exact .inr ⟨b,cap,vs,h2,h3,h4,h5,h6,h7,pre,rest,h8,kd h9⟩
   |jj t e n cs=>
    rw[hq]at ho;obtain⟨u,bs,h1,h0,h2⟩:=ho;refine⟨u,bs,by rw[hb];exact h1,h0,?_⟩;rw[lW];exact h2.imp (fun x v=>pL ko) (fun _ _=>rfl) (fun _ _ _=>rfl)
   |oU e n cs=>
    rw[hq]at ho;obtain⟨u,bs,h1,h0,h2⟩:=ho;refine⟨u,bs,by rw[hb];exact h1,h0,?_⟩;rw[lW];exact h2.imp (fun x v=>pL ko) (fun _ _=>rfl) (fun _ _ _ _=>rfl)
   |mp P k es=>
    rw[hq]at ho;obtain⟨b,h1,h2⟩:=ho;exact⟨b,by rw[hb];exact h1,h2.imp rfl fun x v hx=>D.ke (fun b o _ hc hn=>⟨hc,fun h=>hn (h.imp (fun x=>x) (hown b o))⟩) _ _ hx⟩
theorem Inv.cut{C:Ctx}{β:gZ}{s:gQ}{w:World}(h:Inv C β s w){j t e n q:Nat}{cs:List D}(hj:C.k<=j)(ho:sat s j=.lO t e n cs)(hq:q<=n){v:Value}{cap:Nat}{a:Option Addr}(hv:β j=.tok (.slice a n cap) n):
 let β2:=gG β j (.tok (.slice a q cap) q);let s2:=sset (gS j s) j (.lO t e q (cs.take (q*e)))
 Inv C β2 s2 w/\∀{x:AV}{v:Value},AV.ok β (C.gO β s) w x v->AV.ok β2 (C.gO β2 s2) w (x.hG (gC j)) v:=by
 intro β2 s2;have hsat:∀i,sat s2 i=if i=j then .lO t e q (cs.take (q*e))else(sat s i).kill j:=fun i=>by
  show sat (sset (gS j s) j _) i=_;rw[iE];by_cases hi:i=j
  ·simp[hi]
  ·rw[aJ hi,aJ hi,sd,aJ hi]
 have hβ:∀i,i≠j->β2 i=β i:=fun i hi=>by simp[β2,gG,hi]
 have hβj:β2 j=.tok (.slice a q cap) q:=by simp[β2,gG]
 have hown:∀b o,own β2 s2 b o->own β s b o:=fun b o ⟨i,hi⟩=>by
  rw[hsat]at hi;by_cases hij:i=j
  ·subst hij;rw[aE rfl]at hi;obtain⟨cap',hi⟩:=hi;rw[hβj]at hi;refine⟨i,?_⟩;rw[ho];simp only[Place.tok.injEq,bw]at hi;exact⟨cap,by rw[hv,hi.1.1]⟩
  ·rw[aJ hij]at hi;refine⟨i,?_⟩;have hb:=hβ i hij;cases hs:sat s i<;>rw[hs]at hi<;>simp only[Ob.kill]at hi⊢<;>first|exact hi|(rw[hb]at hi;exact hi)
 have hblk:∀i b,gy β2 s2 i b->gy β s i b:=fun i b hi=>by
  unfold gy at hi⊢;rw[hsat]at hi;by_cases hij:i=j
  ·subst hij;rw[aE rfl]at hi;obtain⟨cap',hi⟩:=hi;rw[hβj]at hi;rw[ho];simp only[Place.tok.injEq,bw]at hi;exact⟨cap,by rw[hv,hi.1.1]⟩
  ·rw[aJ hij]at hi;have hb:=hβ i hij;cases hs:sat s i<;>rw[hs]at hi<;>simp only[Ob.kill]at hi⊢<;>first|exact hi|(rw[hb]at hi;exact hi)
 refine h.X4 j hj hβ (fun i hi=>by rw[hsat,aJ hi]) hown hblk ?_;rw[hsat,aE rfl];have h1:=h.obs j;rw[ho]at h1;obtain⟨u,g1,g2,g3⟩:=h1;rw[hv]at g1;cases g1;refine⟨_,hβj,?_,?_⟩
 ·rw[aU,g2];exact fF (bG e hq)
 ·rcases g3 with⟨g3,g4⟩|⟨b,cap',vs,g3,g4,g5,g6,g7,g8,pre,rest,g9,g10⟩
  ·left;cases g3;exact⟨by rw[Nat.le_zero.1 hq],Nat.le_zero.1 hq⟩
  ·cases g3;refine .inr ⟨b,cap,vs,rfl,g4,g5,gu,g7,g8,pre.take (q*e),pre.drop (q*e)++rest,?_,?_⟩
   ·rw[<-aI,bQ];exact g9
   ·refine D.x_ (D.kj (fun b o _ hc hn=>⟨hc,fun h=>hn (h.imp (fun x=>x) (hown b o))⟩) _ _ g10) _
section
variable{P:Program}{C:Ctx}{o:Oper}{env:List AV}{s:gQ}{k:List AV->gQ->Prop}
theorem Vk{t e0 e:Nat}{x y:Operand}(hop:o.op=.slice t x none (some y) none)(hu:P.underlying t=some (.slice e0))(hn:kZ P e0=some e)
 {e' j n:Nat} (hx:ev env x=.mL e' j n) {h:Int} (hy:kr (ev env y)=some h) (hk:Sw C.k e e' j n h env s (fun r env s=>k (iU o.dst env r) s) (sat s j)):mU P C o env s k:=by
 unfold Sw at hk;split at hk
 case h_2=>exact hk.elim
 rename_i t' e2 m cs hs;obtain⟨rfl,rfl,rfl,h0,h1,hj,hk⟩:=hk;obtain⟨i',hi',hin⟩:=kT hn;refine .value fun β a w hst=>?_
 have hxv:=hst.ev x;rw[hx]at hxv;simp only[AV.ok]at hxv;obtain⟨u,m,hat,hnm,huv,hform⟩:=hxv;have hob:=hst.inv.obs j;rw[hs]at hob;obtain⟨u',hβ,hlen,hgro⟩:=hob;rw[hβ]at hat;obtain⟨rfl,rfl⟩:=hat;have hv:=huv rfl;obtain⟨ad,cap,hslice,hcap⟩:∃ad cap,a.eval x=.slice ad n cap/\n<=cap:=by
  rcases hform with⟨ad,h2,h3⟩|⟨b,cap,h2,h3,_⟩
  ·subst h3;exact⟨ad,0,h2,aO _⟩
  ·exact⟨_,cap,h2,h3⟩
 have hmin:OR h.toNat n=h.toNat:=by show min h.toNat n=h.toNat;omega
 rw[hmin]at hk;have hrun:=yU (P:=P) hst (lo:=none) (hi:=some y) n cap (l:=0) (h:=h) (by rfl) (by simpa[Ap]using hy) (dg _) h0 h1 hcap;have hβ':β j=.tok (.slice ad n cap) n:=by rw[hβ,<-hv,hslice]
 obtain⟨hI,hE⟩:=hst.inv.cut (v:=.slice ad n cap) hj hs (q:=h.toNat) gu hβ';refine⟨.slice ad h.toNat cap,w,_,AV.gY (gC j) env,_,_,?_,⟨hst.defers,hI,by rw[rK];exact hst.len,fun i z hz=>?_⟩,?_,hk⟩
 ·simp only[execOp,hop,Instr.sliceAt,aR,aY hu,aF,hslice];have hrun':=hrun;simp only[dV,aX]at hrun';simp[Instr.slice,aY hu,hrun',Go.sizeOf,typeInfo,hi',hin,dA];cases ad with
  |none=>simp
  |some b=>
   rcases hform with⟨ad',h2,h3⟩|⟨b',cap',h2,h3,_⟩
   ·rw[hslice]at h2;cases h2;simp
   ·rw[hslice]at h2;cases h2;simp[dA]
 ·rw[vc]at hz;obtain⟨z',hz',rfl⟩:=aH.1 hz;exact hE (hst.env i z' hz')
 ·simp only[AV.ok];refine⟨.slice ad h.toNat cap,h.toNat,by simp[gG,Place.at],aO _,fun _=>rfl,?_⟩;rcases hform with⟨ad',h2,h3⟩|⟨b,cap',h2,h3,h4⟩
  ·rw[hslice]at h2;cases h2;exact .inl ⟨ad,by rw[show h.toNat=0 by omega],gu⟩
  ·rw[hslice]at h2;cases h2;exact .inr ⟨b,cap,rfl,gu,h4⟩
theorem Vg{t:Nat}{x:Operand}(hop:o.op=.makeInterface t x){d:TypeDesc}(hu:P.underlying t=some d)(hd:∀ms,d≠ .interface ms)(hx:ev env x=.d (.agg []))
 (hk:k (iU o.dst env (.d (.lit (.iface t (.agg #[]))))) s):mU P C o env s k:=by
 refine .pure (x:=.d (.lit (.iface t (.agg #[])))) (fun β a w hst=>?_) hk;have h1:=hst.ev x;rw[hx]at h1;simp only[AV.ok,D.ok]at h1;obtain⟨vs,h2,h3⟩:=h1;simp only[D.iK]at h3;have h4:vs=#[]:=cO (by simpa using h3);subst h4;refine⟨.iface t (.agg #[]),?_,uF rfl⟩;simp only[execOp,hop,Instr.makeInterface,aR,aY hu,aF,h2];cases d<;>first|rfl|exact absurd rfl (hd _)
end
section
variable{P:Program}{C:Ctx}{o:Oper}{env:List AV}{s:gQ}{k:List AV->gQ->Prop}
theorem HD{f:Nat}(h:enters P f=true)(vs:Array Value)(w:World):(callFunc f vs).run P w=.ok (.enter f vs) w:=by
 unfold enters at h;split at h
 ·rename_i fn hf;simp only[bq,eJ]at h;obtain⟨h1,h2⟩:=h;have h3:fn.body.isNone=false:=by cases hb:fn.body<;>simp_all
  simp only[callFunc,aR,cQ,aF,hf];rw[aJ (by rw[h1];simp),aJ (by rw[h3];simp)];rfl
 ·cases h
theorem Jp{C:Ctx}{n:Nat}{P:Program}{f:FuncId}{args:Array Value}{w:World}{R:Ending->World->Prop}:CallsIn C.vC n P f args w R<->Calls P f args w R:=
 callsIn_wide (n:=n)
theorem P1{c:Call}(hop:o.op=.call c){g:Operand}(hc:c.callee=.value g){f:Nat}{first cap:List AV}(hg:ev env g=.fn f first cap)(he:enters P f=true)
 (hk:Cn P C.k f (first++c.args.toList.map (ev env)++cap) env s fun x env s=>k (iU o.dst env x) s):mU P C o env s k:=by
 intro hnd Q β a w hst;have hgv:=hst.ev g;rw[hg]at hgv;simp only[AV.ok]at hgv;obtain⟨fs,cs,h1,h2,h3⟩:=hgv;have hargs:AV.iK β (C.gO β s) w (first++c.args.toList.map (ev env)++cap) (fs++c.args.map a.eval++cs).toList:=by
  simp only[Array.toList_append,dQ];exact pR (pR h2 (Gd hst c.args.toList)) h3
 have hrun:(execOp a.eval o).run P w=.ok (.enter f (fs++c.args.map a.eval++cs)) w:=by
  simp only[execOp,hop,resolve,hc,h1,Deferred.ofValue,aR,a_,aF,invoke];exact HD he _ _
 refine⟨fun _ _=>trivial,?_⟩;rw[Oper.semAt_eq _ _ _ hnd,hrun,Oper.uponIn_enter];refine⟨fun h=>by simp[Ctx.vC]at h,Jp.2 ((hk C β a w _ rfl hst hargs).mono ?_)⟩;rintro e w' ⟨v,x,β',env',s',rfl,hst',hx,hk'⟩;exact⟨β',_,s',hst'.put hx o.dst,hk'⟩
theorem Kw{m:tM}(hm:oc P o=some m)(hk:oV P C.k m env s fun x env s=>k (iU o.dst env x) s):mU P C o env s k:=by
 unfold oc at hm;split at hm
 ·rename_i x hop;cases hm;exact Yd (.inl hop) hk
 ·rename_i x hop;cases hm;exact Yd (.inr hop) hk
 ·rename_i c x y hop;cases hm;simp only[oV]at hk;split at hk
  ·rename_i t ht;exact Vi hop ht hk
  ·exact hk.elim
 ·rename_i t hop;simp only[ai,aH]at hm;obtain⟨d,hd,z,hz,rfl⟩:=hm;exact Sz hop hz hk
 ·rename_i t x hop;simp only[aH]at hm;obtain⟨d,hd,rfl⟩:=hm;simp only[oV]at hk;split at hk
  ·rename_i cs hc;exact X6 hop hc hk
  ·exact hk.elim
 ·rename_i t ps hop;split at hm
  ·rename_i fs hu;simp only[ai]at hm;obtain⟨z,hz,hm⟩:=hm;split at hm
   ·rename_i hall;simp only[aH]at hm;obtain⟨qs,hq,rfl⟩:=hm;simp only[oV]at hk;split at hk
    ·rename_i cs hc;exact SA hop hu hz (fun f hf=>by simpa using cc.1 hall f hf) hq hc hk
    ·exact hk.elim
   ·cases hm
  ·rename_i n e hu;split at hm
   ·rename_i hps;simp only[ai,aH]at hm;obtain⟨q,hq,z,hz,rfl⟩:=hm;simp only[oV,qp]at hk;exact P0 hop hu hz (by simpa using hps) hq hk
   ·cases hm
  ·cases hm
 ·rename_i t n ps hop;simp only[ai]at hm;obtain⟨d,hd,e,he,sz,hsz,z,hz,hm⟩:=hm;split at hm
  ·rename_i hcond;simp only[aH]at hm;obtain⟨xs,hxs,rfl⟩:=hm;simp only[oV]at hk;split at hk
   ·rename_i ds hds;exact X7 hop (mW he) hsz hz hcond.1 hcond.2 hxs hds hk.1 hk.2
   ·exact hk.elim
  ·cases hm
 ·rename_i t p hop;simp only[ai,aH]at hm;obtain⟨n,hn,ag,hg,rfl⟩:=hm;exact Vc hop hn hg hk
 ·rename_i t p x hop;simp only[aH]at hm;obtain⟨n,hn,rfl⟩:=hm;exact SE hop hn hk
 ·rename_i x hop;cases hm;simp only[oV]at hk;split at hk
  ·rename_i id off hx;exact GG hop hx (.inl ⟨id,off,rfl⟩) hk
  ·rename_i cs hx;exact GG hop hx (.inr (.inl ⟨cs,rfl⟩)) hk
  ·rename_i f a b hx;exact GG hop hx (.inr (.inr (.inl ⟨f,a,b,rfl⟩))) hk
  ·rename_i id m off hx;exact GG hop hx (.inr (.inr (.inr ⟨id,m,off,rfl⟩))) hk
  ·exact hk.elim
 ·rename_i op t x y t' hop;split at hm
  ·cases hm;exact TZ hop hk
  ·cases hm;exact TZ hop hk
  ·rename_i hu;split at hm
   ·cases hm;simp only[oV]at hk;split at hk
    ·rename_i p q hx hy;exact PZ hop hu (.inl ⟨rfl,rfl⟩) hx hy hk
    ·exact hk.elim
   ·cases hm;simp only[oV]at hk;split at hk
    ·rename_i p q hx hy;exact PZ hop hu (.inr ⟨rfl,rfl⟩) hx hy hk
    ·exact hk.elim
   ·cases hm
  ·rename_i e hu;split at hm
   ·rename_i hy;split at hm
    ·cases hm;simp only[oV]at hk;split at hk
     ·rename_i b hx;exact Lr hop hu hy (.inl ⟨rfl,rfl⟩) hx hk
     ·split at hk
      ·rename_i e' xs hx;exact Iu hop hu hy (.inl ⟨rfl,rfl⟩) hx hk.1 hk.2
      ·exact hk.elim
    ·cases hm;simp only[oV]at hk;split at hk
     ·rename_i b hx;exact Lr hop hu hy (.inr ⟨rfl,rfl⟩) hx hk
     ·split at hk
      ·rename_i e' xs hx;exact Iu hop hu hy (.inr ⟨rfl,rfl⟩) hx hk.1 hk.2
      ·exact hk.elim
    ·cases hm
   ·cases hm
  ·cases hm
 ·rename_i op t x hop;cases hm;simp only[oV]at hk;split at hk
  ·rename_i b hx;exact Yf hop hx hk
  ·rename_i j n hx;exact Ye hop hx hk
  ·exact hk.elim
 ·rename_i a b x hop;split at hm
  ·rename_i j j' ha hb;cases hm;simp only[oV]at hk;split at hk
   ·rename_i j0 n hx;exact Va hop ⟨j,ha⟩ hb hx hk
   ·exact hk.elim
  ·cases hm
 ·rename_i f first cap hop
  cases hm;exact Vf hop hk
 ·rename_i t l c hop;simp only[ai]at hm;obtain⟨d,hd,e,he,sz,hsz,by',hby,z,hz,hm⟩:=hm;split at hm
  ·rename_i hsz0;split at hm
   ·rename_i hz0;cases hm;simp only[oV]at hk;split at hk
    ·rename_i l' c' hl hc;exact P5 hop (mW he) hsz hby hz hsz0 (tok:=true) (.inl ⟨rfl,hz0⟩) hl hc hk.1 hk.2.1 hk.2.2.1 hk.2.2.2.1 (by simpa using hk.2.2.2.2)
    ·exact hk.elim
   ·split at hm
    ·rename_i hsame;cases hm;simp only[oV]at hk;split at hk
     ·rename_i l' c' hl hc;exact P5 hop (mW he) hsz hby hz hsz0 (tok:=false) (.inr ⟨rfl,hsame⟩) hl hc hk.1 hk.2.1 hk.2.2.1 hk.2.2.2.1 (by simpa using hk.2.2.2.2)
     ·exact hk.elim
    ·cases hm
  ·cases hm
 ·rename_i t x lo hi mx hop;split at hm
  ·rename_i e hu;simp only[aH]at hm;obtain⟨sz,hsz,rfl⟩:=hm;simp only[oV]at hk;split at hk
   ·rename_i e' xs hxs;cases mx with
    |none=>exact Yg hop hu hsz hxs hk.1 hk.2
    |some m=>
     obtain⟨rfl,hh,h,rfl,h1,h2,h3,h4,h5,h6⟩:=hk;exact Vj hop hu hsz hxs h1 h2 h4 h5 h6
   ·exact hk.elim
  ·rename_i n e hu;split at hm
   case isFalse=>cases hm
   rename_i hn62;simp only[aH]at hm;obtain⟨sz,hsz,rfl⟩:=hm;simp only[oV]at hk;split at hk
   ·rename_i id off hx;exact P6 hn62 hop hu hsz hx (h:=n) (by simp[Ap]) gu gu (by simpa using hk)
   ·rename_i id off h hx;split at hk
    ·rename_i h' hh;exact P6 hn62 hop hu hsz hx (h:=h') (by simpa[Ap]using hh) hk.1 hk.2.1 hk.2.2
    ·exact hk.elim
   ·exact hk.elim
  ·rename_i hu;cases mx with
   |some m=>cases hm
   |none=>
    cases hm;simp only[oV]at hk;split at hk
    ·rename_i b hx;split at hk
     ·rename_i l h hl hh;exact Yh hop hu hx hl hh hk.1 hk.2.1 hk.2.2.1 hk.2.2.2
     ·exact hk.elim
    ·exact hk.elim
  ·cases hm
 ·rename_i t p f hop;split at hm
  ·rename_i fs hu;simp only[ai]at hm;obtain⟨fd,hf,n,hn,hm⟩:=hm;split at hm
   ·cases hm
   ·rename_i h0;cases hm;simp only[oV]at hk;split at hk
    ·rename_i id off hx;exact P2 hop hu hf hn h0 (.inl ⟨id,off,hx,rfl⟩) hk
    ·rename_i cs hx;exact P2 hop hu hf hn h0 (.inr (.inl ⟨cs,hx,rfl⟩)) hk
    ·rename_i id m off hx;exact P2 hop hu hf hn h0 (.inr (.inr ⟨id,m,off,hx,rfl⟩)) hk
    ·exact hk.elim
  ·cases hm
 ·rename_i t x f hop;split at hm
  ·rename_i fs hu;simp only[ai,aH]at hm;obtain⟨fd,hf,n,hn,ag,hg,rfl⟩:=hm;simp only[oV]at hk;split at hk
   ·rename_i cs hc;exact X9 hop hu hf hn hg hc hk.1 hk.2
   ·exact hk.elim
  ·cases hm
 ·rename_i t x i hop;split at hm
  ·rename_i e hu;simp only[aH]at hm;obtain⟨sz,hsz,rfl⟩:=hm;exact X_ hop hu hsz hk
  ·rename_i n e hu;simp only[aH]at hm;obtain⟨sz,hsz,rfl⟩:=hm;simp only[oV]at hk;split at hk
   ·rename_i j id off hj hx;exact P3 hop hu hsz hj hk.1 hk.2.1 (.inl ⟨id,off,hx,rfl⟩) hk.2.2
   ·rename_i j cs hj hx;exact P3 hop hu hsz hj hk.1 hk.2.1 (.inr ⟨cs,hx,rfl⟩) hk.2.2
   ·exact hk.elim
  ·cases hm
 ·rename_i x i hop;cases hm;simp only[oV]at hk;split at hk
  ·rename_i cs hx;exact X8 hop hx hk.1 hk.2
  ·exact hk.elim
 ·rename_i c hop;split at hm
  ·rename_i f hc;split at hm
   ·rename_i he;cases hm;simp only[oV]at hk;exact P1 hop hc (f:=f) (first:=[]) (cap:=[]) (by simp[ev]) he (by simpa using hk)
   ·cases hm
  ·rename_i g hc;cases hm;simp only[oV]at hk;split at hk
   ·rename_i f first cap hg;exact P1 hop hc hg hk.1 hk.2
   ·exact hk.elim
  ·rename_i hc;split at hm
   ·rename_i e x ht ha;cases hm;simp only[ai]at ht;obtain⟨t,ht,hu⟩:=ht;have ha':c.args=#[x]:=by apply cO;simpa using ha
    simp only[oV]at hk;split at hk
    ·rename_i e' id off n hx;refine P4 hop hc ha' ht hu (n:=n) (fun β w v hv=>?_) hk;rw[hx]at hv;simp only[AV.ok]at hv;obtain⟨b,cap,_,_,hv⟩:=hv;exact⟨_,cap,hv⟩
    ·rename_i e' id n hx;refine P4 hop hc ha' ht hu (n:=n) (fun β w v hv=>?_) hk;rw[hx]at hv;simp only[AV.ok]at hv;obtain⟨u,m,_,_,_,⟨_,hv,rfl⟩|⟨b,cap,hv,_⟩⟩:=hv
     ·exact⟨_,0,hv⟩
     ·exact⟨_,cap,hv⟩
    ·split at hk
     ·rename_i e' xs hxs;refine P4 hop hc ha' ht hu (n:=xs.length) (fun β w v hv=>?_) hk;obtain⟨a,cap,hv,_⟩:=zH hv hxs;exact⟨a,cap,hv⟩
     ·exact hk.elim
   ·rename_i x ht ha;cases hm;simp only[ai]at ht;obtain⟨t,ht,hu⟩:=ht;have ha':c.args=#[x]:=by apply cO;simpa using ha
    simp only[oV]at hk;split at hk
    ·rename_i b hx;exact Vb hop hc ha' ht hu hx hk
    ·exact hk.elim
   ·cases hm
  ·rename_i hc;split at hm
   ·rename_i x y t u ha hat hau;simp only[ai]at hm;obtain⟨d,hd,e,he,e2,he2,sz,hsz,by',hby,z,hz,hm⟩:=hm;split at hm
    ·rename_i hcond;cases hm;have ha':c.args=#[x,y]:=by apply cO;simpa using ha
     exact TY hop hc ha' hat hau (mW he) (mW he2) hsz hby hz hcond.1 hcond.2 hk
    ·cases hm
   ·cases hm
  ·rename_i hc;split at hm
   ·rename_i x y ha;cases hm;have ha':c.args=#[x,y]:=by apply cO;simpa using ha
    simp only[oV]at hk;split at hk
    ·rename_i j n j' n' hx hy;obtain⟨rfl,hk⟩:=hk;exact Yb hop hc ha' hx hy hk
    ·exact hk.elim
   ·cases hm
  ·rename_i hc;split at hm
   ·rename_i x y ha;cases hm;have ha':c.args=#[x,y]:=by apply cO;simpa using ha
    simp only[oV]at hk;split at hk
    ·rename_i j n j' n' hx hy;obtain⟨rfl,hk⟩:=hk;exact Yc hop hc ha' hx hy hk
    ·exact hk.elim
   ·cases hm
  ·rename_i hc;split at hm
   ·rename_i x y t kt ha hat;have ha':c.args=#[x,y]:=by apply cO;simpa using ha
    have hat':c.argTypes=#[t,kt]:=by apply cO;simpa using hat
    simp only[ai]at hm;obtain⟨⟨k0,e⟩,ht,kd,hkd,hm⟩:=hm;split at hm
    ·rename_i hk0;simp only at hk0;subst hk0;cases hm;simp only[oV]at hk;split at hk
     ·rename_i id kv hx hy;split at hk
      ·rename_i P' k' es hs;obtain⟨rfl,rfl,hkv,hk⟩:=hk;exact Ve hop hc ha' hat' ht hkd hx hy hs hkv hk
      ·exact hk.elim
     ·exact hk.elim
    ·cases hm
   ·cases hm
  ·cases hm
 ·rename_i t x i hop;split at hm
  ·rename_i hu;cases hm;simp only[oV]at hk;split at hk
   ·rename_i b kk n hx hi;exact Ya hop hu hx hi hk.1 hk.2.1 hk.2.2
   ·exact hk.elim
  ·cases hm
 ·rename_i t hop;simp only[ai,aH]at hm;obtain⟨d,hd,⟨k0,e⟩,ht,rfl⟩:=hm;exact SB hop (e:=e) hk
 ·rename_i t m x ok hop;simp only[ai,aH]at hm;obtain⟨⟨k0,e⟩,ht,kd,hkd,u,hu,rfl⟩:=hm;simp only[oV]at hk;split at hk
  ·rename_i id kv hx hy;split at hk
   ·rename_i P' k' es hs;obtain⟨rfl,rfl,hkv,hk⟩:=hk;exact Vd hop ht hkd hu hx hy hs hkv hk
   ·exact hk.elim
  ·exact hk.elim
 ·rename_i t m x v hop;simp only[ai,aH]at hm;obtain⟨⟨k0,e⟩,ht,kd,hkd,rfl⟩:=hm;simp only[oV]at hk;split at hk
  ·rename_i id kv d hx hy hv;split at hk
   ·rename_i P' k' es hs;obtain⟨rfl,rfl,hkv,hl,hag,hk⟩:=hk;exact Vh hop ht hkd hx hy hv hs hkv hl hag hk
   ·exact hk.elim
  ·exact hk.elim
 ·cases hm;exact(show False from hk).elim
 ·rename_i t x hop;split at hm
  ·cases hm
  ·rename_i d hnd hu;cases hm;exact Vg hop hu (fun ms e=>hnd ms e) hk.1 hk.2
  ·cases hm
 ·cases hm
theorem Pq{x y:Operand}{e:Nat}(hm:oc P o=some (.slc x e none (some y) none)):∃t e0,o.op=.slice t x none (some y) none/\P.underlying t=some (.slice e0)/\kZ P e0=some e:=by
 unfold oc at hm;split at hm
 case h_16 t' x' lo hi mx hop=>
  split at hm
  ·rename_i e0 hu;simp only[aH,tM.slc.injEq]at hm;obtain⟨sz,hsz,rfl,rfl,rfl,rfl,rfl⟩:=hm;exact⟨_,e0,hop,hu,hsz⟩
  ·exfalso;split at hm
   ·simp only[aH]at hm;obtain⟨_,_,hm⟩:=hm;cases hm
   ·cases hm
  ·split at hm<;>cases hm
  ·cases hm
 all_goals exfalso
 all_goals repeat(first
  |(cases hm;done)
  |(simp only[ai,aH]at hm)
  |(obtain⟨_,_,hm⟩:=hm)
  |split at hm)
theorem DR{id t e:Nat}{xs:List Operand}(hm:oc P o=some (.mH id t e xs)):∃t' n ps,o.op=.buildSlice t' n ps:=by
 unfold oc at hm;split at hm
 case h_7 t' n ps hop=>exact⟨_,_,_,hop⟩
 all_goals exfalso
 all_goals repeat(first
  |(cases hm;done)
  |(simp only[ai,aH]at hm)
  |(obtain⟨_,_,hm⟩:=hm)
  |split at hm)
theorem Pm{id t:Nat}{x:Operand}(hm:oc P o=some (.box id t x)):o.op=.box t x:=by
 unfold oc at hm;split at hm
 case h_5 t' x' hop=>
  simp only[aH]at hm;obtain⟨d,hd,hm⟩:=hm;cases hm;exact hop
 all_goals exfalso
 all_goals repeat(first
  |(cases hm;done)
  |(simp only[ai,aH]at hm)
  |(obtain⟨_,_,hm⟩:=hm)
  |split at hm)
theorem Fu{id t e b:Nat}{z:List D}{tok:Bool}{l c:Operand}(hm:oc P o=some (.zy id t e b z tok l c)):∃t',o.op=.makeSlice t' l c:=by
 unfold oc at hm;split at hm
 case h_15 t' l' c' hop=>
  simp only[ai]at hm;obtain⟨d,hd,e',he,sz,hsz,by',hby,z',hz,hm⟩:=hm;split at hm
  ·split at hm
   ·cases hm;exact⟨_,hop⟩
   ·split at hm
    ·cases hm;exact⟨_,hop⟩
    ·cases hm
  ·cases hm
 all_goals exfalso
 all_goals repeat(first
  |(cases hm;done)
  |(simp only[ai,aH]at hm)
  |(obtain⟨_,_,hm⟩:=hm)
  |split at hm)
theorem Ia{id t e b:Nat}{x y:Operand}(hm:oc P o=some (.app id t e b x y)):∃c,o.op=.call c/\c.callee=.builtin .append:=by
 unfold oc at hm;split at hm
 case h_21 c hop=>
  refine⟨c,hop,?_⟩;split at hm
  case h_4 hc=>exact hc
  all_goals exfalso
  all_goals repeat(first
   |(cases hm;done)
   |(simp only[ai,aH]at hm)
   |(obtain⟨_,_,hm⟩:=hm)
   |split at hm)
 all_goals exfalso
 all_goals repeat(first
  |(cases hm;done)
  |(simp only[ai,aH]at hm)
  |(obtain⟨_,_,hm⟩:=hm)
  |split at hm)
theorem Nb{m:tM}(hm:oc P o=some m.erase)(hk:oV P C.k m env s fun x env s=>k (iU o.dst env x) s):mU P C o env s k:=by
 cases m with
 |F6 id d t x=>
  simp only[tM.erase]at hm;have hop:=Pm hm;simp only[oV]at hk;split at hk
  ·rename_i cs hc;exact U7 hop hc hk
  ·exact hk.elim
 |Bk id t e b z tok l c=>
  simp only[tM.erase]at hm;obtain⟨t',hop⟩:=Fu hm;unfold oc at hm;rw[hop]at hm;simp only[ai]at hm;obtain⟨d,hd,e',he,sz,hsz,by',hby,z',hz,hm⟩:=hm;simp only[oV]at hk;split at hk
  case h_2=>exact hk.elim
  rename_i l' c' hl hc;obtain⟨rfl,he0,h0,h1,h2,h3,h4,h5,hk⟩:=hk;split at hm
  ·split at hm
   ·cases hm
   ·split at hm
    ·rename_i hsame;cases hm;exact SD hop (mW he) hsz hby hz hsame hl hc h0 h1 h2 h3 hd he0 h4 h5 hk
    ·cases hm
  ·cases hm
 |zz id t e b z tok l c=>
  simp only[tM.erase]at hm;obtain⟨t',hop⟩:=Fu hm;unfold oc at hm;rw[hop]at hm;simp only[ai]at hm;obtain⟨d,hd,e',he,sz,hsz,by',hby,z',hz,hm⟩:=hm;simp only[oV]at hk;split at hk
  case h_2=>exact hk.elim
  rename_i l' c' zd hl hc;obtain⟨rfl,rfl,h0,h1,h2,h3,hk⟩:=hk;split at hm
  ·split at hm
   ·cases hm
   ·split at hm
    ·rename_i hsame;cases hm;exact SC hop (mW he) hsz hby hz hsame hl hc h0 h1 h2 h3 hk
    ·cases hm
  ·cases hm
 |Ev id t e xs=>
  simp only[tM.erase]at hm;obtain⟨t',n,ps,hop⟩:=DR hm;unfold oc at hm;rw[hop]at hm;simp only[ai]at hm;obtain⟨d,hd,e',he,sz,hsz,z,hz,hm⟩:=hm;split at hm
  ·rename_i hcond;simp only[aH,tM.mH.injEq]at hm;obtain⟨ys,hxs,rfl,rfl,rfl,rfl⟩:=hm;simp only[oV]at hk;split at hk
   ·rename_i cs hcs;exact U_ hop (mW he) hsz hz hcond.1 hcond.2 hxs hcs hk
   ·exact hk.elim
  ·cases hm
 |yY id t e xs=>
  simp only[tM.erase]at hm;obtain⟨t',n,ps,hop⟩:=DR hm;unfold oc at hm;rw[hop]at hm;simp only[ai]at hm;obtain⟨d,hd,e',he,sz,hsz,z,hz,hm⟩:=hm;split at hm
  ·rename_i hcond;simp only[aH,tM.mH.injEq]at hm;obtain⟨ys,hxs,rfl,rfl,rfl,rfl⟩:=hm;simp only[oV]at hk;split at hk
   ·rename_i ds hds;exact U8 hop (mW he) hsz hz hcond.1 hcond.2 hxs hds hk.1 hk.2
   ·exact hk.elim
  ·cases hm
 |yu id t e xs=>
  simp only[tM.erase]at hm;obtain⟨t',n,ps,hop⟩:=DR hm;unfold oc at hm;rw[hop]at hm;simp only[ai]at hm;obtain⟨d,hd,e',he,sz,hsz,z,hz,hm⟩:=hm;split at hm
  ·rename_i hcond;simp only[aH,tM.mH.injEq]at hm;obtain⟨ys,hxs,rfl,rfl,rfl,rfl⟩:=hm;simp only[oV,NP]at hk;split at hk
   ·rename_i ds cs hds hcs;exact U9 hop (mW he) hsz hz hcond.1 hcond.2 hxs hds hk.1 hcs hk.2.1 hk.2.2
   ·exact hk.elim
  ·cases hm
 |Et id t e b x y=>
  simp only[tM.erase]at hm;obtain⟨c,hop,hc⟩:=Ia hm;unfold oc at hm;rw[hop]at hm;simp only[hc]at hm;split at hm
  ·rename_i x y t u ha hat hau;simp only[ai]at hm;obtain⟨d,hd,e,he,e2,he2,sz,hsz,by',hby,z,hz,hm⟩:=hm;split at hm
   ·rename_i hcond;cases hm;have ha':c.args=#[x,y]:=by apply cO;simpa using ha
    exact U5 hop hc ha' hat hau (mW he) (mW he2) hsz hby hz hcond.1 hcond.2 hk
   ·cases hm
  ·cases hm
 |CN id t e b x y=>
  simp only[tM.erase]at hm;obtain⟨c,hop,hc⟩:=Ia hm;unfold oc at hm;rw[hop]at hm;simp only[hc]at hm;split at hm
  ·rename_i x y t u ha hat hau;simp only[ai]at hm;obtain⟨d,hd,e,he,e2,he2,sz,hsz,by',hby,z,hz,hm⟩:=hm;split at hm
   ·rename_i hcond;cases hm;have ha':c.args=#[x,y]:=by apply cO;simpa using ha
    exact U6 hop hc ha' hat hau (mW he) (mW he2) hsz hby hz hcond.1 hcond.2 hk
   ·cases hm
  ·cases hm
 |Iz x e y=>
  simp only[tM.erase]at hm;obtain⟨t,e0,hop,hu,hn⟩:=Pq hm;simp only[oV]at hk;split at hk
  ·rename_i e' j n h hx hy;exact Vk hop hu hn hx hy hk
  ·exact hk.elim
 |_=>exact Kw hm hk
end
end oe
