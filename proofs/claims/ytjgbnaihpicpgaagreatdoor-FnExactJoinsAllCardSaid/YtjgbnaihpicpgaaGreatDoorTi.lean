/- A part of the proof about FnExactJoinsAll (IS, JP, JC, JD). -/
import Derived.Test.YtjgbnaihpicpgaaGreatDoorTa
import Derived.Test.YtjgbnaihpicpgaaGreatDoorTf
import Derived.Test.YtjgbnaihpicpgaaGreatDoorProg
import Derived.WalkKit
import Derived.LaidEql
import Derived.Stop.Asserts
import Derived.RowKitTokens
import Derived.KernelRfl
import Derived.Tactics
import Derived.Tactics2
import Derived.RegionTactic
import Derived.ChangeAlike
import Derived.Deep.RegionHeld3
set_option linter.all false
namespace Go.Proofs.YtjgbnaihpicpgaaGreatDoor
open Go.RowKit Go.Extern.Stop Go.Stop Go.Extern Go.Extern.Rtype
set_option maxHeartbeats 4000000
set_option maxRecDepth 20000
theorem M3(v:Value)(w:World):(Extern.ReflectliteType.typeOf #[.iface 242 v]).run Tryz.prog w=.ok (.iface 148 (.agg #[.pointer (some ⟨1,242,none⟩)])) w:=by kernel_rfl
theorem Ez(w:World):((Extern.ReflectliteType.method fun t=>do noPackHeld "Comparable" t;pure (.bool (<-typeInfo t).comparable)) #[.agg #[.pointer (some ⟨1,242,none⟩)]]).run Tryz.prog w=.ok (.bool true) w:=by kernel_rfl
theorem Dn(w:World):((Extern.ReflectliteType.method fun t=>do noPackHeld "Comparable" t;(fun a=>Value.bool a.comparable)<$>typeInfo t) #[.agg #[.pointer (some ⟨1,242,none⟩)]]).run Tryz.prog w=.ok (.bool true) w:=by kernel_rfl
theorem zb(v:Value)(w:World):(Go.method 380 148 v "Comparable").run Tryz.prog w=.ok (191,v) w:=by kernel_rfl
theorem TQ:(Tryz.prog.info? 242).map (·.comparable)=some true:=by kernel_rfl
theorem TR:(Tryz.prog.info? 268).map (·.size)=some 1:=by kernel_rfl
theorem XG(v:Value)(xT:TypeId)(w:World):(Instr.typeAssert (.iface 84 v) xT 150 true).run Tryz.prog w=.ok (.tuple #[.nilIface,.bool false]) w:=run_typeAssert_lacksB Tryz.underlying150 (by kernel_rfl) (by kernel_rfl) v xT w
theorem HD(v:Value)(xT:TypeId)(w:World):(Instr.typeAssert (.iface 84 v) xT 153 true).run Tryz.prog w=.ok (.tuple #[.iface 84 v,.bool true]) w:=run_typeAssert_hasB Tryz.underlying153 (by kernel_rfl) v xT w
theorem EE(v:Value)(w:World):(Go.method 380 84 v "Unwrap").run Tryz.prog w=.ok (187,v) w:=by kernel_rfl
theorem F4(pb:Nat)(b:Addr)(w:World)(h1:w.cell? ⟨pb,6,none⟩=some (.iface 242 (.pointer (some b)))):
 Calls Tryz.prog 37 #[.iface 84 (.pointer (some ⟨pb,0,none⟩)),.iface 242 (.pointer (some b))] w fun e w'=>e=.returned (.bool true)/\w'=w:=by
 obtain⟨i,hi,hcmp⟩:=ay.1 TQ;obtain⟨j,hj,hjs⟩:=ay.1 TR;have h8:=@run_callFunc_extern Tryz.prog 69 _ Extern.ReflectliteType.typeOf Tryz.func69 (by kernel_rfl) (by kernel_rfl) (by kernel_rfl) (by kernel_rfl);have h32:=@run_callFunc_extern Tryz.prog 191 _ (Extern.ReflectliteType.method fun t=>do noPackHeld "Comparable" t;pure (.bool (<-typeInfo t).comparable)) Tryz.func191 (by kernel_rfl) (by kernel_rfl) (by kernel_rfl) (by kernel_rfl);have tT:=M3;have cT:=Ez;have cT2:=Dn;have mR:=zb;have nW:=XG;have uW:=HD;have mU:=EE;have heq:=run_eql_iface_ptr_same (P:=Tryz.prog) w b Tryz.underlying71 Tryz.underlying242 hi hcmp hj;have hty:=run_eql_iface_types (P:=Tryz.prog) 84 242 (.pointer (some ⟨pb,0,none⟩)) (.pointer (some b)) Tryz.underlying71 (by decide) w;have his:Calls Tryz.prog 70 #[.iface 84 (.pointer (some ⟨pb,0,none⟩)),.iface 242 (.pointer (some b)),.bool true] w fun e w'=>e=.returned (.bool true)/\w'=w:=by
  go_enter Tryz.func70,Tryz.ntmps70
  go_wp2
  refine wp_loop_rounds 2 ?_;rw[rounds_succ]
  go_wp2
  rw[rounds_succ]
  go_wp2
  go_ret
  exact⟨rfl,rfl⟩
 go_enter Tryz.func37,Tryz.ntmps37
 go_wp2_with (go_at_call 70;refine his.mono ?_;rintro e w2 ⟨rfl,rfl⟩)
 go_ret
 exact⟨rfl,rfl⟩
theorem TS(b:Addr)(w:World):
 Calls Tryz.prog 37 #[.nilIface,.iface 242 (.pointer (some b))] w fun e w'=>e=.returned (.bool false)/\w'=w:=by
 have hn:=run_eql_iface_nil_left (P:=Tryz.prog) w 242 (.pointer (some b)) Tryz.underlying71
 go_enter Tryz.func37,Tryz.ntmps37
 go_wp2
 go_ret
 exact⟨rfl,rfl⟩
end Go.Proofs.YtjgbnaihpicpgaaGreatDoor
namespace Go.Proofs.YtjgbnaihpicpgaaGreatDoor
open Go lY Go.RowKit
set_option maxHeartbeats 4000000
set_option maxRecDepth 20000
abbrev tJ:lY.Own:=fun _ _=>False
theorem XJ{P:Program}{f:Nat}{ds rs:List D}(h:oF P f ds rs){W:World}(hgw:GW tJ W){vs:Array Value}(hd:AV.ir (fun _=>.no) tJ W (ds.map .d) vs.toList):
 Calls P f vs W fun e W'=>(∃us:Array Value,e=.returned (.tuple us)/\AV.ir (fun _=>.no) tJ W' (rs.map .d) us.toList)/\Below W.heap.size W W':=by
 have no:∀(b o:Nat),¬({O:=fun _ _=>False,β:=fun _=>.no,s:=[],w:=W,k:=0}:Ctx).gX (fun _=>.no) [] b o:=fun b o h=>by
  rcases h with h|⟨i,h⟩
  ·exact h
  ·exact h
 have hI:Inv {O:=fun _ _=>False,β:=fun _=>.no,s:=[],w:=W,k:=0} (fun _=>.no) [] W:=
  ⟨aC _,rfl,⟨hgw.1,fun h=>no _ _ h⟩,fun _ _ _ h _=>h,fun _ _ _=>rfl,fun _ _ h=>.inl h,fun id b h=>.inl ⟨id,h⟩,fun _ h=>absurd h (fZ _),fun _ _ h=>h.elim,fun _=>rfl,fun _ _ _ h=>h.elim⟩
 have ha:AV.ir (fun _=>.no) (({O:=fun _ _=>False,β:=fun _=>.no,s:=[],w:=W,k:=0}:Ctx).gX (fun _=>.no) []) W (ds.map .d) vs.toList:=by
  have e:(({O:=fun _ _=>False,β:=fun _=>.no,s:=[],w:=W,k:=0}:Ctx).gX (fun _=>.no) [])=tJ:=by
   funext b o;exact propext ⟨fun h=>no b o h,fun h=>h.elim⟩
  rw[e];exact hd
 refine(h {O:=fun _ _=>False,β:=fun _=>.no,s:=[],w:=W,k:=0} vs rfl rfl hI ha).mono fun e W' hq=>?_
 obtain⟨u,x,β',s',rfl,hi,hx,rfl,rfl⟩:=hq;simp only[AV.ok]at hx;obtain⟨us,rfl,hx⟩:=hx;refine⟨⟨us,rfl,EK (AV.iZ (fun b o v hc _=>⟨hc,fun h=>h⟩) (fun _=>.refl _) _ _ hx)⟩,?_⟩;have hio:=hi.io;simp only[yc,dP]at hio;exact⟨hio.1,hio.2.2,hio.2.1,hi.size,fun k hk=>hi.oE k hk fun id h=>h⟩
theorem vG{B:Nat}{w w':World}(h:Below B w w')(hb:B<=w'.heap.size)(o:Obj):Below B w (w'.alloc o):=
 h.trans ⟨rfl,rfl,rfl,by simp,fun k hk=>bf w' o k gN⟩
theorem BV{O:lY.Own}{w:World}{cs:List D}{v:Value}(h:D.ok O w (.agg cs) v):∃vs:Array Value,v=.agg vs/\D.ir O w cs vs.toList:=by simp only[D.ok]at h;exact h
theorem Ec{O:lY.Own}{w:World}{x:gI}{v:Value}(h:D.ok O w (lF x) v):∃p l c q m d,v=.agg #[.slice p l c,.slice q m d]:=by
 obtain⟨vs,rfl,h9⟩:=BV (cs:=[gS 1 iD x.1,gS 3 iq x.2]) h;simp only[D.ir]at h9;obtain⟨s0,r0,e0,o0,d0,s1,r1,rfl,o1,d1,rfl⟩:=h9;obtain rfl:vs=#[s0,s1]:=cP (by simpa using e0);have d0':D.ok O w (.sl 1 none (x.1.map iD)) s0:=d0;have d1':D.ok O w (.sl 3 none (x.2.map iq)) s1:=d1;simp only[D.ok]at d0' d1';obtain⟨p,c,rfl,_⟩:=d0';obtain⟨q,d,rfl,_⟩:=d1';exact⟨_,_,_,_,_,_,rfl⟩
theorem UT{β:gZ}{O:lY.Own}{w:World}{x1 x2:gI}{b:Bool}{us:Array Value}(h:AV.ir β O w (List.map .d [lF x1,lF x2,bD b]) us.toList):
 ∃p1 l1 c1 p2 l2 c2 p3 l3 c3 p4 l4 c4,us=#[.agg #[.slice p1 l1 c1,.slice p2 l2 c2],.agg #[.slice p3 l3 c3,.slice p4 l4 c4],.bool b]:=by
 simp only[List.map,AV.ir,AV.ok]at h;obtain⟨v0,r0,e0,h0,v1,r1,e1,h1,v2,r2,e2,h2,e3⟩:=h;obtain⟨p1,l1,c1,p2,l2,c2,rfl⟩:=Ec h0;obtain⟨p3,l3,c3,p4,l4,c4,rfl⟩:=Ec h1;obtain⟨rfl,_⟩:=h2;subst e3 e2 e1;exact⟨p1,l1,c1,p2,l2,c2,p3,l3,c3,p4,l4,c4,cP (by simpa using e0)⟩
theorem Cz{sys:gC}{a b:gk}{q0' q3' q4' q5':Value}{steps:Int}{rr}(hj:nI sys a b steps=some rr)
 {W:World} (hgw:GW tJ W) {v0 va vb v2:Value} (h0:D.ok tJ W (ia sys) v0) (ha:D.ok tJ W ((gS 1 iD) a) va) (hb:D.ok tJ W ((gS 1 iD) b) vb) (h2:D.ok tJ W (iD steps) v2) (e:Addr) (he:W.cell? ⟨0,0,none⟩=some (.iface 242 (.pointer (some e)))):
 Calls Tryz.prog 38 #[v0,.agg #[q0',va,vb,q3',q4',q5'],v2] W fun r W'=>Below W.heap.size W W'/\
  ((rr.2.2=true/\r=.returned .nilIface)\/(rr.2.2=false/\∃pb,r=.returned (.iface 84 (.pointer (some ⟨pb,0,none⟩)))/\W'.cell? ⟨pb,6,none⟩=some (.iface 242 (.pointer (some e))))):=by
 obtain⟨vs0,rfl,h0'⟩:=BV h0;simp only[D.ir]at h0';obtain⟨s0,r0,e0,o0,d0,s1,r1,rfl,o1,d1,rfl⟩:=h0';obtain rfl:vs0=#[s0,s1]:=cP (by simpa using e0);have hcall:=fun(W1:World)(hg1:GW tJ W1)(x0:D.ok tJ W1 (ia sys) (.agg #[s0,s1]))(xa:D.ok tJ W1 ((gS 1 iD) a) va)(xb:D.ok tJ W1 ((gS 1 iD) b) vb)(x2:D.ok tJ W1 (iD steps) v2)=>
  XJ (Fw.c hj) hg1 (vs:=#[.agg #[s0,s1],va,vb,v2]) ⟨_,_,rfl,x0,_,_,rfl,xa,_,_,rfl,xb,_,_,rfl,x2,rfl⟩
 let W2:World:=(W.alloc (.cells #[s0,s1] 33)).alloc (.cells #[q0',va,vb,q3',q4',q5'] 54);have hk:∀b o v,W.cell? ⟨b,o,none⟩=some v->W2.cell? ⟨b,o,none⟩=some v:=fun b o v hc=>by
  have hb:=jZ hc;exact(cw _ _ _ (by show b<(W.alloc _).heap.size;simp;omega)).trans ((cw W _ _ hb).trans hc)
 have hB2:Below W.heap.size W W2:=⟨rfl,rfl,rfl,by simp[W2];omega,fun k hk=>by
  show((W.alloc _).alloc _).heap[k]?=_;rw[bf _ _ _ (by simp;omega),bf _ _ _ hk]⟩
 have hc2:=hcall W2 (hgw.mono fun b o v hc hn=>⟨hk b o v hc,hn⟩) (D.iN (fun b o v hc hn=>⟨hk b o v hc,hn⟩) _ _ h0) (D.iN (fun b o v hc hn=>⟨hk b o v hc,hn⟩) _ _ ha) (D.iN (fun b o v hc hn=>⟨hk b o v hc,hn⟩) _ _ hb) (D.iN (fun b o v hc hn=>⟨hk b o v hc,hn⟩) _ _ h2);have hc3:Calls Tryz.prog 48 #[.agg #[s0,s1],va,vb,v2] W2 fun r w3=>∃p1 l1 c1 p2 l2 c2 p3 l3 c3 p4 l4 c4,r=.returned (.tuple #[.agg #[.slice p1 l1 c1,.slice p2 l2 c2],.agg #[.slice p3 l3 c3,.slice p4 l4 c4],.bool rr.2.2])/\Below W2.heap.size W2 w3:=
  hc2.mono fun r w3 ⟨⟨us,hr,hus⟩,hbel⟩=>by
   obtain⟨p1,l1,c1,p2,l2,c2,p3,l3,c3,p4,l4,c4,rfl⟩:=UT hus;exact⟨p1,l1,c1,p2,l2,c2,p3,l3,c3,p4,l4,c4,hr,hbel⟩
 clear hc2 hcall;have hsz2:W2.heap.size=W.heap.size+2:=by simp[W2]
 have hnew:W2.heap[W.heap.size+1]?=some (.cells #[q0',va,vb,q3',q4',q5'] 54 (0,0)):=by
  have:=dr (W.alloc (.cells #[s0,s1] 33)) (.cells #[q0',va,vb,q3',q4',q5'] 54);simpa[W2]using this
 have keep2:∀{w3:World},Below W2.heap.size W2 w3->∀{v:Value}(j:Nat),(#[q0',va,vb,q3',q4',q5']:Array Value)[j]?=some v->∀o1 o2,((w3.alloc o1).alloc o2).cell? ⟨W.heap.size+1,j,none⟩=some v:=fun{w3} hb {v} j hv o1 o2=>by
  have h1:w3.heap[W.heap.size+1]?=W2.heap[W.heap.size+1]?:=hb.block _ gN;have h2:W.heap.size+1<w3.heap.size:=by have:=hb.size;omega
  rw[bU ((bf _ _ _ (by simp;omega)).trans ((bf w3 _ _ h2).trans h1))];simp only[World.cell?,hnew];exact hv
 have keepe:∀{w3:World},Below W2.heap.size W2 w3->∀o1 o2,((w3.alloc o1).alloc o2).cell? ⟨0,0,none⟩=some (.iface 242 (.pointer (some e))):=fun{w3} hb o1 o2=>by
  have h0:=jZ he;have h0':0<W.heap.size:=h0;have h1:w3.heap[0]?=W2.heap[0]?:=hb.block _ gN;have h2:0<w3.heap.size:=by have:=hb.size;omega
  rw[bU ((bf _ _ _ (by simp)).trans ((bf w3 _ _ h2).trans h1))];exact hk 0 0 _ he
 cases hrr:rr.2.2 with
 |true=>
  rw[hrr]at hc3
  go_enter Tryz.func38,Tryz.ntmps38
  go_wp2_with (go_at_call 48;refine hc3.mono ?_;rintro r w3 ⟨p1,l1,c1,p2,l2,c2,p3,l3,c3,p4,l4,c4,rfl,hbel⟩)
  have hB3:Below W.heap.size W w3:=hB2.trans ⟨hbel.os,hbel.tape,hbel.output,hbel.size,fun k hk=>hbel.block k gN⟩;have hs3:=hbel.size
  go_ret
  exact⟨vG (vG hB3 gN _) (by simp;omega) _,.inl ⟨trivial,rfl⟩⟩
 |false=>
  rw[hrr]at hc3
  go_enter Tryz.func38,Tryz.ntmps38
  go_wp2_with (go_at_call 48;refine hc3.mono ?_;rintro r w3 ⟨p1,l1,c1,p2,l2,c2,p3,l3,c3,p4,l4,c4,rfl,hbel⟩;have q0:=keep2 hbel (v:=q0') 0 rfl;have q1:=keep2 hbel (v:=va) 1 rfl;have q2:=keep2 hbel (v:=vb) 2 rfl;have q3:=keep2 hbel (v:=q3') 3 rfl;have q4:=keep2 hbel (v:=q4') 4 rfl;have q5:=keep2 hbel (v:=q5') 5 rfl;have qe:=keepe hbel)
  have hB3:Below W.heap.size W w3:=hB2.trans ⟨hbel.os,hbel.tape,hbel.output,hbel.size,fun k hk=>hbel.block k gN⟩;have hs3:=hbel.size
  go_ret
  refine⟨vG (vG (vG hB3 gN _) (by simp;omega) _) (by simp;omega) _,.inr ⟨trivial,_,rfl,?_⟩⟩;have hq:=dr ((w3.alloc (.cells #[.slice p1 l1 c1,.slice p2 l2 c2] 50)).alloc (.cells #[.slice p3 l3 c3,.slice p4 l4 c4] 50)) (.cells #[q0',va,vb,q3',q4',q5',.iface 242 (.pointer (some e))] 88);rw[show((w3.alloc (.cells #[.slice p1 l1 c1,.slice p2 l2 c2] 50)).alloc (.cells #[.slice p3 l3 c3,.slice p4 l4 c4] 50)).heap.size=w3.heap.size+1+1 by simp]at hq;simp only[World.cell?,hq];rfl
theorem Fo{sys:gC}{a b:gk}{q0' q3' q4' q5':Value}{steps:Int}{rr}(hj:nI sys a b steps=some rr)
 {W:World} (hgw:GW tJ W) {s0 s1 va vb v2:Value} {b0 b1:Nat} (h0:D.ok tJ W (ia sys) (.agg #[s0,s1])) (ha:D.ok tJ W ((gS 1 iD) a) va) (hb:D.ok tJ W ((gS 1 iD) b) vb) (h2:D.ok tJ W (iD steps) v2)
 (c00:W.cell? ⟨b0,0,none⟩=some s0) (c01:W.cell? ⟨b0,1,none⟩=some s1) (c10:W.cell? ⟨b1,0,none⟩=some v2):
 Calls Tryz.prog 36 #[.agg #[q0',va,vb,q3',q4',q5'],.pointer (some ⟨b0,0,none⟩),.pointer (some ⟨b1,0,none⟩)] W fun r W'=>Below W.heap.size W W'/\r=.returned (.bool (!rr.2.2)):=by
 obtain⟨⟨e,he⟩,hno⟩:=hgw;have hlt0:b0<W.heap.size:=jZ c00;have hlt1:b1<W.heap.size:=jZ c10;have hlte:0<W.heap.size:=jZ he;have k00:(W.alloc (.cells #[q0',va,vb,q3',q4',q5'] 54)).cell? ⟨b0,0,none⟩=some s0:=(cw W _ _ hlt0).trans c00;have k01:(W.alloc (.cells #[q0',va,vb,q3',q4',q5'] 54)).cell? ⟨b0,1,none⟩=some s1:=(cw W _ _ hlt0).trans c01;have k10:(W.alloc (.cells #[q0',va,vb,q3',q4',q5'] 54)).cell? ⟨b1,0,none⟩=some v2:=(cw W _ _ hlt1).trans c10;have ke:(W.alloc (.cells #[q0',va,vb,q3',q4',q5'] 54)).cell? ⟨0,0,none⟩=some (.iface 242 (.pointer (some e))):=(cw W _ _ hlte).trans he;have hkp:∀b o v,W.cell? ⟨b,o,none⟩=some v->(W.alloc (.cells #[q0',va,vb,q3',q4',q5'] 54)).drew.cell? ⟨b,o,none⟩=some v:=fun b o v hc=>(cw W _ _ (jZ hc)).trans hc
 have hmo:∀b o v,W.cell? ⟨b,o,none⟩=some v->¬tJ b o->(W.alloc (.cells #[q0',va,vb,q3',q4',q5'] 54)).drew.cell? ⟨b,o,none⟩=some v/\¬tJ b o:=fun b o v hc hn=>⟨hkp b o v hc,hn⟩
 have hJ:=Cz (q0':=q0') (q3':=q3') (q4':=q4') (q5':=q5') hj (GW.mono (O:=tJ) ⟨⟨e,he⟩,hno⟩ hmo) (D.iN hmo _ _ h0) (D.iN hmo _ _ ha) (D.iN hmo _ _ hb) (D.iN hmo _ _ h2) e (hkp 0 0 _ he);have hB1:Below W.heap.size W (W.alloc (.cells #[q0',va,vb,q3',q4',q5'] 54)).drew:=⟨rfl,rfl,rfl,by show _<=(W.alloc _).heap.size;simp,fun k hk=>bf W _ k hk⟩;have hsz:(W.alloc (.cells #[q0',va,vb,q3',q4',q5'] 54)).drew.heap.size=W.heap.size+1:=by show(W.alloc _).heap.size=_;simp
 have hB3:∀{w3:World},Below (W.alloc (.cells #[q0',va,vb,q3',q4',q5'] 54)).drew.heap.size (W.alloc (.cells #[q0',va,vb,q3',q4',q5'] 54)).drew w3->Below W.heap.size W w3/\w3.cell? ⟨0,0,none⟩=some (.iface 242 (.pointer (some e))):=fun{w3} hb=>by
  refine⟨hB1.trans ⟨hb.os,hb.tape,hb.output,hb.size,fun k hk=>hb.block k gN⟩,?_⟩;rw[bU (hb.block 0 gN)];exact hkp 0 0 _ he
 have hnew:(W.alloc (.cells #[q0',va,vb,q3',q4',q5'] 54)).drew.heap[W.heap.size]?=some (.cells #[q0',va,vb,q3',q4',q5'] 54 (0,0)):=dr W (.cells #[q0',va,vb,q3',q4',q5'] 54);have hS0:(W.alloc (.cells #[q0',va,vb,q3',q4',q5'] 54)).drew.cell? ⟨b0,0,none⟩=some s0/\(W.alloc (.cells #[q0',va,vb,q3',q4',q5'] 54)).drew.cell? ⟨b0,1,none⟩=some s1/\(W.alloc (.cells #[q0',va,vb,q3',q4',q5'] 54)).drew.cell? ⟨b1,0,none⟩=some v2/\(W.alloc (.cells #[q0',va,vb,q3',q4',q5'] 54)).drew.cell? ⟨0,0,none⟩=some (.iface 242 (.pointer (some e)))/\(W.alloc (.cells #[q0',va,vb,q3',q4',q5'] 54)).drew.cell? ⟨W.heap.size,0,none⟩=some q0'/\(W.alloc (.cells #[q0',va,vb,q3',q4',q5'] 54)).drew.cell? ⟨W.heap.size,1,none⟩=some va/\(W.alloc (.cells #[q0',va,vb,q3',q4',q5'] 54)).drew.cell? ⟨W.heap.size,2,none⟩=some vb/\(W.alloc (.cells #[q0',va,vb,q3',q4',q5'] 54)).drew.cell? ⟨W.heap.size,3,none⟩=some q3'/\(W.alloc (.cells #[q0',va,vb,q3',q4',q5'] 54)).drew.cell? ⟨W.heap.size,4,none⟩=some q4'/\(W.alloc (.cells #[q0',va,vb,q3',q4',q5'] 54)).drew.cell? ⟨W.heap.size,5,none⟩=some q5':=by
  refine⟨k00,k01,k10,ke,?_,?_,?_,?_,?_,?_⟩<;>(simp only[World.cell?,hnew];rfl)
 have hS3:∀{w3:World},Below (W.alloc (.cells #[q0',va,vb,q3',q4',q5'] 54)).drew.heap.size (W.alloc (.cells #[q0',va,vb,q3',q4',q5'] 54)).drew w3->w3.cell? ⟨b0,0,none⟩=some s0/\w3.cell? ⟨b0,1,none⟩=some s1/\w3.cell? ⟨b1,0,none⟩=some v2/\w3.cell? ⟨0,0,none⟩=some (.iface 242 (.pointer (some e)))/\w3.cell? ⟨W.heap.size,0,none⟩=some q0'/\w3.cell? ⟨W.heap.size,1,none⟩=some va/\w3.cell? ⟨W.heap.size,2,none⟩=some vb/\w3.cell? ⟨W.heap.size,3,none⟩=some q3'/\w3.cell? ⟨W.heap.size,4,none⟩=some q4'/\w3.cell? ⟨W.heap.size,5,none⟩=some q5':=fun{w3} hb=>by
  have hh:∀b o v,b<W.heap.size+1->(W.alloc (.cells #[q0',va,vb,q3',q4',q5'] 54)).drew.cell? ⟨b,o,none⟩=some v->w3.cell? ⟨b,o,none⟩=some v:=fun b o v hl hc=>(bU (hb.block b gN)).trans hc
  obtain⟨g0,g1,g2,g3,g4,g5,g6,g7,g8,g9⟩:=hS0;exact⟨hh _ _ _ gN g0,hh _ _ _ gN g1,hh _ _ _ gN g2,hh _ _ _ gN g3,hh _ _ _ gN g4,hh _ _ _ gN g5,hh _ _ _ gN g6,hh _ _ _ gN g7,hh _ _ _ gN g8,hh _ _ _ gN g9⟩
 cases hrr:rr.2.2 with
 |true=>
  have hJ1:Calls Tryz.prog 38 #[.agg #[s0,s1],.agg #[q0',va,vb,q3',q4',q5'],v2] (W.alloc (.cells #[q0',va,vb,q3',q4',q5'] 54)).drew fun r w3=>r=.returned .nilIface/\Below W.heap.size W w3/\w3.cell? ⟨b0,0,none⟩=some s0/\w3.cell? ⟨b0,1,none⟩=some s1/\w3.cell? ⟨b1,0,none⟩=some v2/\w3.cell? ⟨0,0,none⟩=some (.iface 242 (.pointer (some e)))/\w3.cell? ⟨W.heap.size,0,none⟩=some q0'/\w3.cell? ⟨W.heap.size,1,none⟩=some va/\w3.cell? ⟨W.heap.size,2,none⟩=some vb/\w3.cell? ⟨W.heap.size,3,none⟩=some q3'/\w3.cell? ⟨W.heap.size,4,none⟩=some q4'/\w3.cell? ⟨W.heap.size,5,none⟩=some q5':=hJ.mono fun r w3 ⟨h1,h2⟩=>by
   rcases h2 with⟨_,h2⟩|⟨h2,_⟩
   ·exact⟨h2,(hB3 h1).1,hS3 h1⟩
   ·rw[hrr]at h2;cases h2
  clear hJ hB3 hS3
  go_enter Tryz.func36,Tryz.ntmps36
  go_wp2
  go_region_held3 (fun w':World=>w'.cell? ⟨b0,0,none⟩=some s0/\w'.cell? ⟨b0,1,none⟩=some s1/\w'.cell? ⟨b1,0,none⟩=some v2/\w'.cell? ⟨0,0,none⟩=some (.iface 242 (.pointer (some e)))/\w'.cell? ⟨W.heap.size,0,none⟩=some q0'/\w'.cell? ⟨W.heap.size,1,none⟩=some va/\w'.cell? ⟨W.heap.size,2,none⟩=some vb/\w'.cell? ⟨W.heap.size,3,none⟩=some q3'/\w'.cell? ⟨W.heap.size,4,none⟩=some q4'/\w'.cell? ⟨W.heap.size,5,none⟩=some q5') (first|assumption) (first
   |(go_at_call 38;refine hJ1.mono ?_;rintro r w3 ⟨rfl,hB,hc⟩)
   |(go_at_call 37;refine(TS e _).mono ?_;rintro r w4 ⟨rfl,rfl⟩))
  go_wp2
  go_ret
  exact⟨hB,rfl⟩
 |false=>
  have hJ1:Calls Tryz.prog 38 #[.agg #[s0,s1],.agg #[q0',va,vb,q3',q4',q5'],v2] (W.alloc (.cells #[q0',va,vb,q3',q4',q5'] 54)).drew fun r w3=>(∃pb,r=.returned (.iface 84 (.pointer (some ⟨pb,0,none⟩)))/\w3.cell? ⟨pb,6,none⟩=some (.iface 242 (.pointer (some e))))/\Below W.heap.size W w3/\w3.cell? ⟨b0,0,none⟩=some s0/\w3.cell? ⟨b0,1,none⟩=some s1/\w3.cell? ⟨b1,0,none⟩=some v2/\w3.cell? ⟨0,0,none⟩=some (.iface 242 (.pointer (some e)))/\w3.cell? ⟨W.heap.size,0,none⟩=some q0'/\w3.cell? ⟨W.heap.size,1,none⟩=some va/\w3.cell? ⟨W.heap.size,2,none⟩=some vb/\w3.cell? ⟨W.heap.size,3,none⟩=some q3'/\w3.cell? ⟨W.heap.size,4,none⟩=some q4'/\w3.cell? ⟨W.heap.size,5,none⟩=some q5':=hJ.mono fun r w3 ⟨h1,h2⟩=>by
   rcases h2 with⟨h2,_⟩|⟨_,h2⟩
   ·rw[hrr]at h2;cases h2
   ·exact⟨h2,(hB3 h1).1,hS3 h1⟩
  clear hJ hB3 hS3
  go_enter Tryz.func36,Tryz.ntmps36
  go_wp2
  go_region_held3 (fun w':World=>w'.cell? ⟨b0,0,none⟩=some s0/\w'.cell? ⟨b0,1,none⟩=some s1/\w'.cell? ⟨b1,0,none⟩=some v2/\w'.cell? ⟨0,0,none⟩=some (.iface 242 (.pointer (some e)))/\w'.cell? ⟨W.heap.size,0,none⟩=some q0'/\w'.cell? ⟨W.heap.size,1,none⟩=some va/\w'.cell? ⟨W.heap.size,2,none⟩=some vb/\w'.cell? ⟨W.heap.size,3,none⟩=some q3'/\w'.cell? ⟨W.heap.size,4,none⟩=some q4'/\w'.cell? ⟨W.heap.size,5,none⟩=some q5') (first|assumption) (first
   |(go_at_call 38;refine hJ1.mono ?_;rintro r w3 ⟨⟨pb,rfl,hpb⟩,hB,hc⟩)
   |(go_at_call 37;refine(F4 pb e _ hpb).mono ?_;rintro r w4 ⟨rfl,rfl⟩))
  go_wp2
  go_ret
  exact⟨hB,rfl⟩
theorem Og{O:lY.Own}{w:World}{x:D}{v:Value}(h:D.ok O w x v):D.ok tJ w x v:=D.iN (fun b o v hc _=>⟨hc,fun h=>h⟩) _ _ h
noncomputable def nH(p:gq)(o0:gk)(o1:gw)(o2:Int):Option Bool:=
 (nI (o0,o1) p.2.1 p.2.2.1 o2).map fun rr=>!rr.2.2
instance IU{p:gq}{o0:gk}{o1:gw}{o2:Int}:iH (nH p o0 o1 o2) fun rr=>h_ Tryz.prog 36 [.d (.agg [gS 1 iD p.1,gS 1 iD p.2.1,gS 1 iD p.2.2.1,iD p.2.2.2.1,iD p.2.2.2.2.1,iD p.2.2.2.2.2]),.ptr 0 0,.ptr 1 0] [(0,.obj 33 [.d (gS 1 iD o0),.d (gS 2 gP o1)]),(1,.obj 2 [.d (iD o2)])] 2 fun xx ss=>xx=.d (bD rr)/\ss=[(0,.obj 33 [.d (gS 1 iD o0),.d (gS 2 gP o1)]),(1,.obj 2 [.d (iD o2)])]:=⟨@fun rr h=>by
 obtain⟨r,hj,rfl⟩:=ay.1 h;intro C vs hCs hCk hinv hargs;simp only[AV.ir]at hargs;obtain⟨v0,r0,e0,h0,v1,r1,e1,h1,v2,r2,e2,h2,e3⟩:=hargs;subst e3 e2 e1;obtain rfl:vs=#[v0,v1,v2]:=cP (by simpa using e0);simp only[AV.ok]at h0 h1 h2;obtain⟨ps,rfl,k0⟩:=BV h0;simp only[D.ir]at k0;obtain⟨x0,s0,f0,_,g0,x1,s1,rfl,_,g1,x2,s2,rfl,_,g2,x3,s3,rfl,_,g3,x4,s4,rfl,_,g4,x5,s5,rfl,_,g5,rfl⟩:=k0;obtain rfl:ps=#[x0,x1,x2,x3,x4,x5]:=cP (by simpa using f0);have ob0:=hinv.obs 0;have ob1:=hinv.obs 1;rw[hCs]at ob0 ob1;have q0:sat [(0,Ob.obj 33 [.d (gS 1 iD o0),.d (gS 2 gP o1)]),(1,.obj 2 [.d (iD o2)])] 0=Ob.obj 33 [.d (gS 1 iD o0),.d (gS 2 gP o1)]:=rfl;have q1:sat [(0,Ob.obj 33 [.d (gS 1 iD o0),.d (gS 2 gP o1)]),(1,.obj 2 [.d (iD o2)])] 1=Ob.obj 2 [.d (iD o2)]:=rfl;rw[q0]at ob0;rw[q1]at ob1;obtain⟨b0,vs0,B0,W0,ones0,pre0,rest0,z0,y0⟩:=ob0;obtain⟨b1,vs1,B1,W1,ones1,pre1,rest1,z1,y1⟩:=ob1;simp only[AV.ir,AV.ok]at y0 y1;obtain⟨sv0,t0,rfl,d0,sv1,t1,rfl,d1,rfl⟩:=y0;obtain⟨sv2,t2,rfl,d2,rfl⟩:=y1;have w0:v1=.pointer (some ⟨b0,0,none⟩):=by
  obtain⟨b,hb,rfl⟩:=h1;rw[B0]at hb;cases hb;rfl
 have w1:v2=.pointer (some ⟨b1,0,none⟩):=by
  obtain⟨b,hb,rfl⟩:=h2;rw[B1]at hb;cases hb;rfl
 subst w0 w1;have cell0:∀(b j:Nat)(vs:Array Value)(t:TypeId)(v:Value),C.w.heap[b]?=some (.cells vs t (0,0))->vs.toList[j]?=some v->C.w.cell? ⟨b,j,none⟩=some v:=fun b j vs t v hh hv=>by
  simp only[World.cell?,hh];simpa using hv
 have c00:=cell0 b0 0 _ _ sv0 W0 (by rw[z0];rfl);have c01:=cell0 b0 1 _ _ sv1 W0 (by rw[z0];rfl);have c10:=cell0 b1 0 _ _ sv2 W1 (by rw[z1];rfl);have o0':one sv0=true:=ones0 sv0 (by rw[z0];simp);have o1':one sv1=true:=ones0 sv1 (by rw[z0];simp);have hs:D.ok tJ C.w (ia (o0,o1)) (.agg #[sv0,sv1]):=by
  show D.ok tJ C.w (.agg [gS 1 iD o0,gS 2 gP o1]) _;simp only[D.ok];exact⟨_,rfl,by simp only[D.ir];exact⟨_,_,rfl,o0',Og d0,_,_,rfl,o1',Og d1,rfl⟩⟩
 refine(Fo hj (hinv.HA.mono fun b o v hc _=>⟨hc,fun h=>h⟩) hs (Og g1) (Og g2) (Og d2) c00 c01 c10).mono fun e w' ⟨hB,he⟩=>?_
 subst he;refine⟨_,_,C.β,C.s,rfl,hinv.grown hB.size (by simp only[yc,hB.os,hB.tape,hB.output]) (fun b hb=>hB.block b hb),?_,rfl,hCs⟩;exact uG rfl⟩
end Go.Proofs.YtjgbnaihpicpgaaGreatDoor
