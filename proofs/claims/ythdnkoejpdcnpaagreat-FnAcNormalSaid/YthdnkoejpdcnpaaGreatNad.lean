/- A part of the proof about FnAcNormal and about FnAcSteps (Lay, G0, C04, C24, G1, G2). -/
import Derived.Test.YthdnkoejpdcnpaaGreatNaa
import Derived.Test.YthdnkoejpdcnpaaGreatNac
import Derived.Shelf.Spec.SlicesGrow
import Derived.Test.YthdnkoejpdcnpaaGreatProg
import Derived.Shelf.Small.Bits
import Derived.Shelf.Strconv.Itoa0
import Derived.Ground.SlsfProg
import Derived.Shelf.SlSortCmp.Insertion
import Derived.Shelf.SlSortCmp.SiftDown1
import Derived.Shelf.SlSortCmp.HeapSort1
import Derived.Shelf.SlSortCmp.Insertion1
import Derived.Shelf.SlSortCmp.Median1
import Derived.Shelf.SlSortCmp.Pivot1
import Derived.Shelf.SlSortCmp.ReverseRange1
import Derived.Shelf.SlSortCmp.PartialInsertion1
import Derived.Shelf.SlSortCmp.PartitionEqual1
import Derived.Shelf.SlSortCmp.Partition1
import Derived.Shelf.SlSortCmp.Pdq1
import Derived.Shelf.SlSortCmp.Whole1
import Derived.Shelf.SlSortCmp.NoneTotal
import Derived.KernelRfl
set_option linter.all false
noncomputable section
namespace Go.Proofs
open Go.Shelf
def Tryz.G3:Go.Shelf.Ren:=⟨fun|4=>200|n=>n,fun|22=>22|25=>2|3=>3|4=>4|9=>9|20=>20|0=>0|n=>n,fun|n=>n⟩
theorem Tryz.QO:Go.Proofs.Lays8.n4 Tryz.prog Tryz.G3:={
 mixed:=by kernel_rfl
 f4:=⟨Tryz.f200.name,by decide,Tryz.func200.trans (aO some (by kernel_rfl))⟩
 t0:=Tryz.underlying0
 a0:=Tryz.isAgg0
 z0:=Tryz.sizeOf0
 v0:=Tryz.zeroValue0
 t3:=Tryz.underlying3
 a3:=Tryz.isAgg3
 z3:=Tryz.sizeOf3
 v3:=Tryz.zeroValue3
 t4:=Tryz.underlying4
 a4:=Tryz.isAgg4
 z4:=Tryz.sizeOf4
 v4:=Tryz.zeroValue4
 t9:=Tryz.underlying9
 a9:=Tryz.isAgg9
 z9:=Tryz.sizeOf9
 v9:=Tryz.zeroValue9
 t20:=Tryz.underlying20
 a20:=Tryz.isAgg20
 z20:=Tryz.sizeOf20
 v20:=Tryz.zeroValue20
 t22:=Tryz.underlying22
 a22:=Tryz.isAgg22
 z22:=Tryz.sizeOf22
 v22:=Tryz.zeroValue22}
def Tryz.G4:Go.Shelf.Ren:=⟨fun|4=>209|n=>n,fun|22=>45|25=>22|3=>3|4=>4|9=>9|20=>20|0=>0|n=>n,fun|n=>n⟩
theorem Tryz.QS:Go.Proofs.Lays8.n4 Tryz.prog Tryz.G4:={
 mixed:=by kernel_rfl
 f4:=⟨Tryz.f209.name,by decide,Tryz.func209.trans (aO some (by kernel_rfl))⟩
 t0:=Tryz.underlying0
 a0:=Tryz.isAgg0
 z0:=Tryz.sizeOf0
 v0:=Tryz.zeroValue0
 t3:=Tryz.underlying3
 a3:=Tryz.isAgg3
 z3:=Tryz.sizeOf3
 v3:=Tryz.zeroValue3
 t4:=Tryz.underlying4
 a4:=Tryz.isAgg4
 z4:=Tryz.sizeOf4
 v4:=Tryz.zeroValue4
 t9:=Tryz.underlying9
 a9:=Tryz.isAgg9
 z9:=Tryz.sizeOf9
 v9:=Tryz.zeroValue9
 t20:=Tryz.underlying20
 a20:=Tryz.isAgg20
 z20:=Tryz.sizeOf20
 v20:=Tryz.zeroValue20
 t22:=Tryz.underlying45
 a22:=Tryz.isAgg45
 z22:=Tryz.sizeOf45
 v22:=Tryz.zeroValue45}
def Tryz.BX:Go.Shelf.Ren:=⟨fun|6=>95|15=>153|14=>152|28=>191|29=>192|20=>183|21=>184|22=>185|23=>186|24=>187|25=>188|26=>189|27=>190|46=>210|47=>211|48=>212|49=>213|50=>214|57=>221|n=>n,fun|22=>100|24=>45|25=>117|3=>3|39=>168|0=>0|53=>199|55=>201|4=>4|46=>192|45=>191|50=>196|5=>5|9=>9|66=>213|70=>217|76=>224|77=>225|n=>n,fun|n=>n⟩
theorem Tryz.FE:Go.Proofs.SlLaysF.n6 Tryz.prog Tryz.BX:={
 mixed:=by kernel_rfl
 f6:=⟨Tryz.f95.name,by decide,Tryz.func95.trans (aO some (by kernel_rfl))⟩
 f14:=⟨Tryz.f152.name,by decide,Tryz.func152.trans (aO some (by kernel_rfl))⟩
 f15:=Tryz.func153.trans (aO some (by kernel_rfl))
 f20:=⟨Tryz.f183.name,by decide,Tryz.func183.trans (aO some (by kernel_rfl))⟩
 f21:=⟨Tryz.f184.name,by decide,Tryz.func184.trans (aO some (by kernel_rfl))⟩
 f22:=⟨Tryz.f185.name,by decide,Tryz.func185.trans (aO some (by kernel_rfl))⟩
 f23:=⟨Tryz.f186.name,by decide,Tryz.func186.trans (aO some (by kernel_rfl))⟩
 f24:=⟨Tryz.f187.name,by decide,Tryz.func187.trans (aO some (by kernel_rfl))⟩
 f25:=⟨Tryz.f188.name,by decide,Tryz.func188.trans (aO some (by kernel_rfl))⟩
 f26:=⟨Tryz.f189.name,by decide,Tryz.func189.trans (aO some (by kernel_rfl))⟩
 f27:=⟨Tryz.f190.name,by decide,Tryz.func190.trans (aO some (by kernel_rfl))⟩
 f28:=Tryz.func191.trans (aO some (by kernel_rfl))
 f29:=Tryz.func192.trans (aO some (by kernel_rfl))
 f46:=⟨Tryz.f210.name,by decide,Tryz.func210.trans (aO some (by kernel_rfl))⟩
 f47:=Tryz.func211.trans (aO some (by kernel_rfl))
 f48:=Tryz.func212.trans (aO some (by kernel_rfl))
 f49:=⟨Tryz.f213.name,by decide,Tryz.func213.trans (aO some (by kernel_rfl))⟩
 f50:=⟨Tryz.f214.name,by decide,Tryz.func214.trans (aO some (by kernel_rfl))⟩
 f57:=⟨Tryz.f221.name,by decide,Tryz.func221.trans (aO some (by kernel_rfl))⟩
 t0:=Tryz.underlying0
 a0:=Tryz.isAgg0
 z0:=Tryz.sizeOf0
 v0:=Tryz.zeroValue0
 t3:=Tryz.underlying3
 a3:=Tryz.isAgg3
 z3:=Tryz.sizeOf3
 v3:=Tryz.zeroValue3
 t4:=Tryz.underlying4
 a4:=Tryz.isAgg4
 z4:=Tryz.sizeOf4
 v4:=Tryz.zeroValue4
 t5:=Tryz.underlying5
 a5:=Tryz.isAgg5
 z5:=Tryz.sizeOf5
 v5:=Tryz.zeroValue5
 t9:=Tryz.underlying9
 a9:=Tryz.isAgg9
 z9:=Tryz.sizeOf9
 v9:=Tryz.zeroValue9
 t22:=Tryz.underlying100
 a22:=Tryz.isAgg100
 z22:=Tryz.sizeOf100
 v22:=Tryz.zeroValue100
 a24:=Tryz.isAgg45
 z24:=Tryz.sizeOf45
 t25:=Tryz.underlying117
 a25:=Tryz.isAgg117
 z25:=Tryz.sizeOf117
 v25:=Tryz.zeroValue117
 t39:=Tryz.underlying168
 a39:=Tryz.isAgg168
 z39:=Tryz.sizeOf168
 v39:=Tryz.zeroValue168
 t45:=Tryz.underlying191
 a45:=Tryz.isAgg191
 z45:=Tryz.sizeOf191
 v45:=Tryz.zeroValue191
 t46:=Tryz.underlying192
 a46:=Tryz.isAgg192
 z46:=Tryz.sizeOf192
 v46:=Tryz.zeroValue192
 t50:=Tryz.underlying196
 a50:=Tryz.isAgg196
 z50:=Tryz.sizeOf196
 v50:=Tryz.zeroValue196
 t53:=Tryz.underlying199
 a53:=Tryz.isAgg199
 z53:=Tryz.sizeOf199
 v53:=Tryz.zeroValue199
 t55:=Tryz.underlying201
 a55:=Tryz.isAgg201
 z55:=Tryz.sizeOf201
 v55:=Tryz.zeroValue201
 t66:=Tryz.underlying213
 a66:=Tryz.isAgg213
 z66:=Tryz.sizeOf213
 v66:=Tryz.zeroValue213
 t70:=Tryz.underlying217
 a70:=Tryz.isAgg217
 z70:=Tryz.sizeOf217
 v70:=Tryz.zeroValue217
 t76:=Tryz.underlying224
 a76:=Tryz.isAgg224
 z76:=Tryz.sizeOf224
 v76:=Tryz.zeroValue224
 t77:=Tryz.underlying225
 a77:=Tryz.isAgg225
 z77:=Tryz.sizeOf225
 v77:=Tryz.zeroValue225}
def Tryz.A9:Go.Shelf.Ren:=⟨fun|6=>126|15=>153|14=>170|28=>191|29=>192|20=>201|21=>202|22=>203|23=>204|24=>205|25=>206|26=>207|27=>208|46=>218|47=>211|48=>212|49=>219|50=>220|57=>224|n=>n,fun|22=>45|24=>22|25=>116|3=>3|39=>168|0=>0|53=>199|55=>201|4=>4|46=>192|45=>191|50=>196|5=>5|9=>9|66=>213|70=>217|76=>224|77=>225|n=>n,fun|n=>n⟩
theorem Tryz.Ev:Go.Proofs.SlLaysF.n6 Tryz.prog Tryz.A9:={
 mixed:=by kernel_rfl
 f6:=⟨Tryz.f126.name,by decide,Tryz.func126.trans (aO some (by kernel_rfl))⟩
 f14:=⟨Tryz.f170.name,by decide,Tryz.func170.trans (aO some (by kernel_rfl))⟩
 f15:=Tryz.func153.trans (aO some (by kernel_rfl))
 f20:=⟨Tryz.f201.name,by decide,Tryz.func201.trans (aO some (by kernel_rfl))⟩
 f21:=⟨Tryz.f202.name,by decide,Tryz.func202.trans (aO some (by kernel_rfl))⟩
 f22:=⟨Tryz.f203.name,by decide,Tryz.func203.trans (aO some (by kernel_rfl))⟩
 f23:=⟨Tryz.f204.name,by decide,Tryz.func204.trans (aO some (by kernel_rfl))⟩
 f24:=⟨Tryz.f205.name,by decide,Tryz.func205.trans (aO some (by kernel_rfl))⟩
 f25:=⟨Tryz.f206.name,by decide,Tryz.func206.trans (aO some (by kernel_rfl))⟩
 f26:=⟨Tryz.f207.name,by decide,Tryz.func207.trans (aO some (by kernel_rfl))⟩
 f27:=⟨Tryz.f208.name,by decide,Tryz.func208.trans (aO some (by kernel_rfl))⟩
 f28:=Tryz.func191.trans (aO some (by kernel_rfl))
 f29:=Tryz.func192.trans (aO some (by kernel_rfl))
 f46:=⟨Tryz.f218.name,by decide,Tryz.func218.trans (aO some (by kernel_rfl))⟩
 f47:=Tryz.func211.trans (aO some (by kernel_rfl))
 f48:=Tryz.func212.trans (aO some (by kernel_rfl))
 f49:=⟨Tryz.f219.name,by decide,Tryz.func219.trans (aO some (by kernel_rfl))⟩
 f50:=⟨Tryz.f220.name,by decide,Tryz.func220.trans (aO some (by kernel_rfl))⟩
 f57:=⟨Tryz.f224.name,by decide,Tryz.func224.trans (aO some (by kernel_rfl))⟩
 t0:=Tryz.underlying0
 a0:=Tryz.isAgg0
 z0:=Tryz.sizeOf0
 v0:=Tryz.zeroValue0
 t3:=Tryz.underlying3
 a3:=Tryz.isAgg3
 z3:=Tryz.sizeOf3
 v3:=Tryz.zeroValue3
 t4:=Tryz.underlying4
 a4:=Tryz.isAgg4
 z4:=Tryz.sizeOf4
 v4:=Tryz.zeroValue4
 t5:=Tryz.underlying5
 a5:=Tryz.isAgg5
 z5:=Tryz.sizeOf5
 v5:=Tryz.zeroValue5
 t9:=Tryz.underlying9
 a9:=Tryz.isAgg9
 z9:=Tryz.sizeOf9
 v9:=Tryz.zeroValue9
 t22:=Tryz.underlying45
 a22:=Tryz.isAgg45
 z22:=Tryz.sizeOf45
 v22:=Tryz.zeroValue45
 a24:=Tryz.isAgg22
 z24:=Tryz.sizeOf22
 t25:=Tryz.underlying116
 a25:=Tryz.isAgg116
 z25:=Tryz.sizeOf116
 v25:=Tryz.zeroValue116
 t39:=Tryz.underlying168
 a39:=Tryz.isAgg168
 z39:=Tryz.sizeOf168
 v39:=Tryz.zeroValue168
 t45:=Tryz.underlying191
 a45:=Tryz.isAgg191
 z45:=Tryz.sizeOf191
 v45:=Tryz.zeroValue191
 t46:=Tryz.underlying192
 a46:=Tryz.isAgg192
 z46:=Tryz.sizeOf192
 v46:=Tryz.zeroValue192
 t50:=Tryz.underlying196
 a50:=Tryz.isAgg196
 z50:=Tryz.sizeOf196
 v50:=Tryz.zeroValue196
 t53:=Tryz.underlying199
 a53:=Tryz.isAgg199
 z53:=Tryz.sizeOf199
 v53:=Tryz.zeroValue199
 t55:=Tryz.underlying201
 a55:=Tryz.isAgg201
 z55:=Tryz.sizeOf201
 v55:=Tryz.zeroValue201
 t66:=Tryz.underlying213
 a66:=Tryz.isAgg213
 z66:=Tryz.sizeOf213
 v66:=Tryz.zeroValue213
 t70:=Tryz.underlying217
 a70:=Tryz.isAgg217
 z70:=Tryz.sizeOf217
 v70:=Tryz.zeroValue217
 t76:=Tryz.underlying224
 a76:=Tryz.isAgg224
 z76:=Tryz.sizeOf224
 v76:=Tryz.zeroValue224
 t77:=Tryz.underlying225
 a77:=Tryz.isAgg225
 z77:=Tryz.sizeOf225
 v77:=Tryz.zeroValue225}
open Go.RowKit Go.Lib Go.Sort in
theorem Tryz.Aa{α:Type}[Inhabited α](enc:α->Value)(h1:OneCell enc)(cf:α->α->Int)(hO:SWO (ltOf cf))(g:Nat)(cb:Array Value)(blk off cap:Nat)(d:Array α)(w:World)(eg:∀args w,(callFunc g args).run Tryz.prog w=.ok (.enter g args) w)(hcmp:CmpLays1 Tryz.prog g cb enc cf blk off d.size w)(hH:Holds enc w blk off d)(hblk:blk<w.heap.size)(hsz:d.size<4611686018427387904):
 Calls Tryz.prog 95 #[.slice (some ⟨blk,off,none⟩) d.size cap,.func (.func g) #[] cb] w fun e w'=>
  e=.returned (.tuple #[])/\∃d' n os,PermIn 0 d.size d d'/\SortedIn (ltOf cf) 0 d.size d'/\w'=sortWorld enc w blk off n d' os:=Any.slices_SortFunc Tryz.FE enc h1 cf hO g cb blk off cap d w eg hcmp hH hblk hsz
open Go.RowKit Go.Lib Go.Sort in
theorem Tryz.zo{α:Type}[Inhabited α](enc:α->Value)(h1:OneCell enc)(cf:α->α->Int)(hO:SWO (ltOf cf))(g:Nat)(cb:Array Value)(blk off cap:Nat)(d:Array α)(w:World)(eg:∀args w,(callFunc g args).run Tryz.prog w=.ok (.enter g args) w)(hcmp:CmpLays1 Tryz.prog g cb enc cf blk off d.size w)(hH:Holds enc w blk off d)(hblk:blk<w.heap.size)(hsz:d.size<4611686018427387904):
 Calls Tryz.prog 126 #[.slice (some ⟨blk,off,none⟩) d.size cap,.func (.func g) #[] cb] w fun e w'=>
  e=.returned (.tuple #[])/\∃d' n os,PermIn 0 d.size d d'/\SortedIn (ltOf cf) 0 d.size d'/\w'=sortWorld enc w blk off n d' os:=Any.slices_SortFunc Tryz.Ev enc h1 cf hO g cb blk off cap d w eg hcmp hH hblk hsz
def Tryz.A8:Go.Shelf.Ren:=⟨fun|6=>95|15=>153|14=>152|28=>191|29=>192|20=>183|21=>184|22=>185|23=>186|24=>187|25=>188|26=>189|27=>190|46=>210|47=>211|48=>212|49=>213|50=>214|57=>221|n=>n,fun|22=>100|24=>45|25=>117|3=>3|39=>168|0=>0|53=>199|55=>201|4=>4|46=>192|45=>191|50=>196|5=>5|9=>9|66=>213|70=>217|76=>224|77=>225|n=>n,fun|n=>n⟩
theorem Tryz.Eu:Go.Proofs.SlLaysF0.n6 Tryz.prog Tryz.A8:={
 mixed:=by kernel_rfl
 f6:=⟨Tryz.f95.name,by decide,Tryz.func95.trans (aO some (by kernel_rfl))⟩
 f14:=⟨Tryz.f152.name,by decide,Tryz.func152.trans (aO some (by kernel_rfl))⟩
 f15:=Tryz.func153.trans (aO some (by kernel_rfl))
 f20:=⟨Tryz.f183.name,by decide,Tryz.func183.trans (aO some (by kernel_rfl))⟩
 f21:=⟨Tryz.f184.name,by decide,Tryz.func184.trans (aO some (by kernel_rfl))⟩
 f22:=⟨Tryz.f185.name,by decide,Tryz.func185.trans (aO some (by kernel_rfl))⟩
 f23:=⟨Tryz.f186.name,by decide,Tryz.func186.trans (aO some (by kernel_rfl))⟩
 f24:=⟨Tryz.f187.name,by decide,Tryz.func187.trans (aO some (by kernel_rfl))⟩
 f25:=⟨Tryz.f188.name,by decide,Tryz.func188.trans (aO some (by kernel_rfl))⟩
 f26:=⟨Tryz.f189.name,by decide,Tryz.func189.trans (aO some (by kernel_rfl))⟩
 f27:=⟨Tryz.f190.name,by decide,Tryz.func190.trans (aO some (by kernel_rfl))⟩
 f28:=Tryz.func191.trans (aO some (by kernel_rfl))
 f29:=Tryz.func192.trans (aO some (by kernel_rfl))
 f46:=⟨Tryz.f210.name,by decide,Tryz.func210.trans (aO some (by kernel_rfl))⟩
 f47:=Tryz.func211.trans (aO some (by kernel_rfl))
 f48:=Tryz.func212.trans (aO some (by kernel_rfl))
 f49:=⟨Tryz.f213.name,by decide,Tryz.func213.trans (aO some (by kernel_rfl))⟩
 f50:=⟨Tryz.f214.name,by decide,Tryz.func214.trans (aO some (by kernel_rfl))⟩
 f57:=⟨Tryz.f221.name,by decide,Tryz.func221.trans (aO some (by kernel_rfl))⟩
 t0:=Tryz.underlying0
 a0:=Tryz.isAgg0
 z0:=Tryz.sizeOf0
 v0:=Tryz.zeroValue0
 t3:=Tryz.underlying3
 a3:=Tryz.isAgg3
 z3:=Tryz.sizeOf3
 v3:=Tryz.zeroValue3
 t4:=Tryz.underlying4
 a4:=Tryz.isAgg4
 z4:=Tryz.sizeOf4
 v4:=Tryz.zeroValue4
 t5:=Tryz.underlying5
 a5:=Tryz.isAgg5
 z5:=Tryz.sizeOf5
 v5:=Tryz.zeroValue5
 t9:=Tryz.underlying9
 a9:=Tryz.isAgg9
 z9:=Tryz.sizeOf9
 v9:=Tryz.zeroValue9
 t22:=Tryz.underlying100
 a22:=Tryz.isAgg100
 z22:=Tryz.sizeOf100
 v22:=Tryz.zeroValue100
 t25:=Tryz.underlying117
 a25:=Tryz.isAgg117
 z25:=Tryz.sizeOf117
 v25:=Tryz.zeroValue117
 t39:=Tryz.underlying168
 a39:=Tryz.isAgg168
 z39:=Tryz.sizeOf168
 v39:=Tryz.zeroValue168
 t45:=Tryz.underlying191
 a45:=Tryz.isAgg191
 z45:=Tryz.sizeOf191
 v45:=Tryz.zeroValue191
 t46:=Tryz.underlying192
 a46:=Tryz.isAgg192
 z46:=Tryz.sizeOf192
 v46:=Tryz.zeroValue192
 t50:=Tryz.underlying196
 a50:=Tryz.isAgg196
 z50:=Tryz.sizeOf196
 v50:=Tryz.zeroValue196
 t53:=Tryz.underlying199
 a53:=Tryz.isAgg199
 z53:=Tryz.sizeOf199
 v53:=Tryz.zeroValue199
 t55:=Tryz.underlying201
 a55:=Tryz.isAgg201
 z55:=Tryz.sizeOf201
 v55:=Tryz.zeroValue201
 t66:=Tryz.underlying213
 a66:=Tryz.isAgg213
 z66:=Tryz.sizeOf213
 v66:=Tryz.zeroValue213
 t70:=Tryz.underlying217
 a70:=Tryz.isAgg217
 z70:=Tryz.sizeOf217
 v70:=Tryz.zeroValue217
 t76:=Tryz.underlying224
 a76:=Tryz.isAgg224
 z76:=Tryz.sizeOf224
 v76:=Tryz.zeroValue224
 t77:=Tryz.underlying225
 a77:=Tryz.isAgg225
 z77:=Tryz.sizeOf225
 v77:=Tryz.zeroValue225}
open Go.RowKit Go.Lib Go.Sort in
theorem Tryz.xk{α:Type}[Inhabited α](p:Option Addr)(cap:Nat)(fv:Value)(w:World):
 Calls Tryz.prog 95 #[.slice p 0 cap,fv] w fun e w'=>e=.returned (.tuple #[])/\w'=w:=AnyF.slices_SortFunc_none Tryz.Eu p cap fv w
def Tryz.Ao:Go.Shelf.Ren:=⟨fun|6=>126|15=>153|14=>170|28=>191|29=>192|20=>201|21=>202|22=>203|23=>204|24=>205|25=>206|26=>207|27=>208|46=>218|47=>211|48=>212|49=>219|50=>220|57=>224|n=>n,fun|22=>45|24=>22|25=>116|3=>3|39=>168|0=>0|53=>199|55=>201|4=>4|46=>192|45=>191|50=>196|5=>5|9=>9|66=>213|70=>217|76=>224|77=>225|n=>n,fun|n=>n⟩
theorem Tryz.DG:Go.Proofs.SlLaysF0.n6 Tryz.prog Tryz.Ao:={
 mixed:=by kernel_rfl
 f6:=⟨Tryz.f126.name,by decide,Tryz.func126.trans (aO some (by kernel_rfl))⟩
 f14:=⟨Tryz.f170.name,by decide,Tryz.func170.trans (aO some (by kernel_rfl))⟩
 f15:=Tryz.func153.trans (aO some (by kernel_rfl))
 f20:=⟨Tryz.f201.name,by decide,Tryz.func201.trans (aO some (by kernel_rfl))⟩
 f21:=⟨Tryz.f202.name,by decide,Tryz.func202.trans (aO some (by kernel_rfl))⟩
 f22:=⟨Tryz.f203.name,by decide,Tryz.func203.trans (aO some (by kernel_rfl))⟩
 f23:=⟨Tryz.f204.name,by decide,Tryz.func204.trans (aO some (by kernel_rfl))⟩
 f24:=⟨Tryz.f205.name,by decide,Tryz.func205.trans (aO some (by kernel_rfl))⟩
 f25:=⟨Tryz.f206.name,by decide,Tryz.func206.trans (aO some (by kernel_rfl))⟩
 f26:=⟨Tryz.f207.name,by decide,Tryz.func207.trans (aO some (by kernel_rfl))⟩
 f27:=⟨Tryz.f208.name,by decide,Tryz.func208.trans (aO some (by kernel_rfl))⟩
 f28:=Tryz.func191.trans (aO some (by kernel_rfl))
 f29:=Tryz.func192.trans (aO some (by kernel_rfl))
 f46:=⟨Tryz.f218.name,by decide,Tryz.func218.trans (aO some (by kernel_rfl))⟩
 f47:=Tryz.func211.trans (aO some (by kernel_rfl))
 f48:=Tryz.func212.trans (aO some (by kernel_rfl))
 f49:=⟨Tryz.f219.name,by decide,Tryz.func219.trans (aO some (by kernel_rfl))⟩
 f50:=⟨Tryz.f220.name,by decide,Tryz.func220.trans (aO some (by kernel_rfl))⟩
 f57:=⟨Tryz.f224.name,by decide,Tryz.func224.trans (aO some (by kernel_rfl))⟩
 t0:=Tryz.underlying0
 a0:=Tryz.isAgg0
 z0:=Tryz.sizeOf0
 v0:=Tryz.zeroValue0
 t3:=Tryz.underlying3
 a3:=Tryz.isAgg3
 z3:=Tryz.sizeOf3
 v3:=Tryz.zeroValue3
 t4:=Tryz.underlying4
 a4:=Tryz.isAgg4
 z4:=Tryz.sizeOf4
 v4:=Tryz.zeroValue4
 t5:=Tryz.underlying5
 a5:=Tryz.isAgg5
 z5:=Tryz.sizeOf5
 v5:=Tryz.zeroValue5
 t9:=Tryz.underlying9
 a9:=Tryz.isAgg9
 z9:=Tryz.sizeOf9
 v9:=Tryz.zeroValue9
 t22:=Tryz.underlying45
 a22:=Tryz.isAgg45
 z22:=Tryz.sizeOf45
 v22:=Tryz.zeroValue45
 t25:=Tryz.underlying116
 a25:=Tryz.isAgg116
 z25:=Tryz.sizeOf116
 v25:=Tryz.zeroValue116
 t39:=Tryz.underlying168
 a39:=Tryz.isAgg168
 z39:=Tryz.sizeOf168
 v39:=Tryz.zeroValue168
 t45:=Tryz.underlying191
 a45:=Tryz.isAgg191
 z45:=Tryz.sizeOf191
 v45:=Tryz.zeroValue191
 t46:=Tryz.underlying192
 a46:=Tryz.isAgg192
 z46:=Tryz.sizeOf192
 v46:=Tryz.zeroValue192
 t50:=Tryz.underlying196
 a50:=Tryz.isAgg196
 z50:=Tryz.sizeOf196
 v50:=Tryz.zeroValue196
 t53:=Tryz.underlying199
 a53:=Tryz.isAgg199
 z53:=Tryz.sizeOf199
 v53:=Tryz.zeroValue199
 t55:=Tryz.underlying201
 a55:=Tryz.isAgg201
 z55:=Tryz.sizeOf201
 v55:=Tryz.zeroValue201
 t66:=Tryz.underlying213
 a66:=Tryz.isAgg213
 z66:=Tryz.sizeOf213
 v66:=Tryz.zeroValue213
 t70:=Tryz.underlying217
 a70:=Tryz.isAgg217
 z70:=Tryz.sizeOf217
 v70:=Tryz.zeroValue217
 t76:=Tryz.underlying224
 a76:=Tryz.isAgg224
 z76:=Tryz.sizeOf224
 v76:=Tryz.zeroValue224
 t77:=Tryz.underlying225
 a77:=Tryz.isAgg225
 z77:=Tryz.sizeOf225
 v77:=Tryz.zeroValue225}
open Go.RowKit Go.Lib Go.Sort in
theorem Tryz.wE{α:Type}[Inhabited α](p:Option Addr)(cap:Nat)(fv:Value)(w:World):
 Calls Tryz.prog 126 #[.slice p 0 cap,fv] w fun e w'=>e=.returned (.tuple #[])/\w'=w:=AnyF.slices_SortFunc_none Tryz.DG p cap fv w
end Go.Proofs
namespace Go.Proofs.YthdnkoejpdcnpaaGreat
open Go kI
theorem FG:(Tryz.prog.follows .mixedOrders=true)=True:=eq_true (by kernel_rfl)
attribute [go_sem] FG
instance:Inhabited ByteArray:=⟨ByteArray.empty⟩
end Go.Proofs.YthdnkoejpdcnpaaGreat
namespace Go.Proofs.YthdnkoejpdcnpaaGreat
theorem VU:((4:Nat):Int)=4:=rfl
attribute [go_sem] VU
theorem Uk:((24:Nat):Int)=24:=rfl
attribute [go_sem] Uk
end Go.Proofs.YthdnkoejpdcnpaaGreat
namespace Go.Proofs.YthdnkoejpdcnpaaGreat
open Go kI
attribute [local irreducible] sO uf uc lu kf pG iV xm xQ wz xP wu pY kr lq xO ia jN
set_option maxHeartbeats 4000000
set_option maxRecDepth 4000
def gQ(x:fP):D:=.agg [(gE 1 iD) x]
def ir(x:fR):D:=.agg [(gE 1 iD) x.1,(gE 1 iD) x.2]
def ja(x:gj):D:=.agg [(gE 1 iD) x.1,(gE 2 ir) x.2]
instance:yG gQ 1:=⟨fun _=>rfl⟩
instance:yG ir 2:=⟨fun _=>rfl⟩
instance:yG ja 2:=⟨fun _=>rfl⟩
attribute [go_sem] gQ ir ja
def Ya:gH:=
 (.seq (.gD (sq 1 [bo 1 27 0,mb false])) (.seq (.seq (.gD (sq 5 [fa 0 1,ld 5,ln 6,bi .lss 7 1,mv 8]++sg 9 false 10 [fa 0 1,ld 10,ln 11,bi .gtr 12 8]++sq 14 [po 9 13])) (.cond (t0 14) (.seq (.gD (sq 2 [mb false])) .ret) .skip)) (.seq (.seq (.gD (sq 15 [fa 0 1,ld 15,ln 16,mi 0])) (.block 0 (.loop (.seq (.gD (sq 19 [bn .lss 18 17])) (.seq (.cond (t0 19) .skip (.exit 0)) (.seq (.block 1 (.seq (.gD (sq 20 [ix 1 16 18,ld 20]++sq 4 [mv 21])) (.seq (.gD (sq 22 [mv 4,bi .lss 22 0,mv 23]++sg 24 false 25 [mv 4,bi .gtr 25 3]++sq 27 [po 24 26])) (.cond (t0 27) (.seq (.gD (sq 2 [mb false])) .ret) .skip)))) (.gD (sq 28 [bi .add 18 1]++sq 18 [mv 28])))))))) (.seq (.gD (sq 2 [mb true])) .ret))))
theorem ZD:jT Tryz.prog 88 Ya 29 [.tmp 2]:=mf Tryz.func88 Tryz.ntmps88
def se(sig:fP):Int->Option fT
 |v18=>
  if(decide (v18<(sig.length:Int)))=true then
   if 0<=v18/\v18<(sig.length:Int)then
    if(decide ((sig.getD v18.toNat default)<0))=true then
     Option.map Sum.inr (
      some false)
    else
     if(decide (3<(sig.getD v18.toNat default)))=true then
      Option.map Sum.inr (
       some false)
     else
      some (.inl (IntKind.i64.wrap (v18+1)))
   else none
  else
   Option.map Sum.inr (
    some true)
def pJ(sig:fP):Option Bool:=
 if(decide ((sig.length:Int)<1))=true then
  some false
 else
  if(decide (8<(sig.length:Int)))=true then
   some false
  else
   gK (se sig) 0
instance Qh{sig:fP}:gW (pJ sig) fun rr=>iC Tryz.prog 88 [gQ sig] (bD rr):=⟨@fun rr h=>by
 delta pJ at h;refine ZD.iA (gC ?_);delta Ya;refine g_ ?_;refine iF h fun hc h=>?_
 refine iF h fun hc h=>?_
 refine jk h [2,4,18,19,20,21,22,23,24,25,26,27,28] (fun pp=>[(18,.d (iD pp))]) (fun pp=>[(1,.obj 27 [.d (gE 1 iD sig)])]) ?_;rintro v18 t1 h hb1;unfold se at h;try dsimp only at h
 refine gC (g_ ?_);exact mm⟩
def Yb:gH:=
 (.seq (.gD (sq 2 [mi 0])) (.seq (.seq (.gD (sq 5 [mv 0,ln 5,bi .lss 6 1])) (.cond (t0 7) (.gD (sq 8 [.Ex 9 (.const (.string {data:=#[115,108,105,99,101,115,46,77,105,110,58,32,101,109,112,116,121,32,108,105,115,116]}))]++s0 (.PU (t0 8)))) .skip)) (.seq (.gD (sq 9 [mv 0,.tD 1 (t0 9) (i0 0),ld 10]++sq 3 [mv 11])) (.seq (.seq (.gD (sq 4 [mi 1])) (.block 0 (.loop (.seq (.seq (.gD (sq 12 [mv 4,mv 0,ln 13,bn .lss 12 14])) (.cond (t0 15) .skip (.exit 0))) (.seq (.block 1 (.gD (sq 18 [mv 3,mv 0,mv 4,ix 1 19 20,ld 21,.min (t0 18) (t0 22)]++sq 3 [mv 23]))) (.gD (sq 16 [mv 4,bi .add 16 1]++sq 4 [mv 17]))))))) (.seq (.gD (sq 24 [mv 3]++sq 2 [mv 24])) .ret)))))
theorem ZE:jT Tryz.prog 89 Yb 25 [.tmp 2]:=mf Tryz.func89 Tryz.ntmps89
def ny(x:fP):gr->Option (gr⊕Int)
 |(m,i)=>
  if(decide (i<(x.length:Int)))=true then
   if 0<=i/\i<(x.length:Int)then
    some (.inl ((if(x.getD i.toNat default)<m then(x.getD i.toNat default)else m),(IntKind.i64.wrap (i+1))))
   else none
  else
   Option.map Sum.inr (
    some m)
def jR(x:fP):Option Int:=
 if(decide ((x.length:Int)<1))=true then
  none
 else
  if 0<=0/\0<(x.length:Int)then
   gK (ny x) ((x.getD 0 default),1)
  else none
instance Eo{x:fP}:gW (jR x) fun rr=>iC Tryz.prog 89 [(gE 1 iD) x] (iD rr):=⟨@fun rr h=>by
 delta jR at h;refine ZE.iA (gC ?_);delta Yb;refine g_ ?_;refine iF h fun hc h=>?_
 refine iU h fun hp h=>?_
 refine jk h [3,4,12,13,14,15,16,17,18,19,20,21,22,23] (fun pp=>[(3,.d (iD pp.1)),(4,.d (iD pp.2))]) (fun pp=>[]) ?_;rintro⟨m,i⟩ t1 h hb1;unfold ny at h;try dsimp only at h
 refine gC (g_ ?_);exact mm⟩
def Tb:gH:=
 (.seq (.gD (sq 2 [bo 2 27 0]++sq 4 [mi 0])) (.seq (.seq (.gD (sq 5 [mv 1,bi .lss 5 0])) (.cond (t0 6) (.seq (.gD (sq 4 [mi 0])) .ret) .skip)) (.seq (.gD (sq 7 [fa 0 2,ld 7,mv 1,ix 1 8 9,ld 10]++sq 4 [mv 11])) .ret)))
theorem WV:jT Tryz.prog 166 Tb 12 [.tmp 4]:=mf Tryz.func166 Tryz.ntmps166
def oN(sig:fP)(n:Int):Option Int:=
 if(decide (n<0))=true then
  some 0
 else
  if 0<=n/\n<(sig.length:Int)then
   some (sig.getD n.toNat default)
  else none
instance MX{sig:fP}{n:Int}:gW (oN sig n) fun rr=>iC Tryz.prog 166 [gQ sig,iD n] (iD rr):=⟨@fun rr h=>by
 delta oN at h;refine WV.iA (gC ?_);delta Tb;refine g_ ?_;exact mm⟩
def Tj:gH:=
 (.seq (.gD (sq 2 [mi 0])) (.seq (.seq (.draw (sq 3 [mv 0,.mA (t0 3),fa 2 4,ld 5,mv 0,.mA (t0 7),fa 1 8,ld 9,ln 10,bn .geq 6 11,mv 12]++sg 13 false 14 [mv 0,.mA (t0 14),fa 1 15,ld 16,mv 0,.mA (t0 18),fa 2 19,ld 20,ix 1 17 21,ld 22,mv 0,.mA (t0 24),fa 0 25,fa 0 26,ld 27,ln 28,bn .geq 23 29]++sq 31 [po 13 30]) [[],[0],[1],[2],[],[4],[5],[6],[7],[3,8],[9],[10],[11,10],[12,10],[13,10],[10],[15,10],[16,10],[17,10],[14,18,10],[19,10],[10],[21,10],[22,10],[23,10],[24,10],[25,10],[20,26,10],[10,27]]) (.cond (t0 31) (.seq (.gD (sq 2 [mi (-1)])) .ret) .skip)) (.seq (.gD (sq 32 [mv 0,.mA (t0 32),fa 2 33,ld 34,bi .add 35 1,.mA (t0 32),fa 2 37]++s0 (sr 1 38 36))) (.seq (.draw (sq 39 [mv 0,.mA (t0 39),fa 0 40,la 1 41,mv 0,.mA (t0 43),fa 1 44,ld 45,mv 0,.mA (t0 47),fa 2 48,ld 49,bi .sub 50 1,ix 1 46 51,ld 52,cf 166 [42,53]]++sq 2 [mv 54]) [[],[0],[1],[2],[],[4],[5],[6],[],[8],[9],[10],[11],[7,12],[13],[3,14],[15,15,0,1,2,3,4,5,6,7,8,9,10,11,12,13,14,15]]) .ret))))
theorem W3:jT Tryz.prog 175 Tj 55 [.tmp 2]:=mf Tryz.func175 Tryz.ntmps175
def nP(c0:fP)(c1:fP)(c2:Int):Option gr:=
 if(decide ((c1.length:Int)<=c2))=true then
  some ((-1),c2)
 else
  if 0<=c2/\c2<(c1.length:Int)then
   if(decide ((c0.length:Int)<=(c1.getD c2.toNat default)))=true then
    some ((-1),c2)
   else
    if 0<=(IntKind.i64.wrap ((IntKind.i64.wrap (c2+1))-1))/\(IntKind.i64.wrap ((IntKind.i64.wrap (c2+1))-1))<(c1.length:Int)then
     (oN c0 (c1.getD (IntKind.i64.wrap ((IntKind.i64.wrap (c2+1))-1)).toNat default)).bind fun r=>
     some (r,(IntKind.i64.wrap (c2+1)))
    else none
  else none
instance Ik{c0:fP}{c1:fP}{c2:Int}:gW (nP c0 c1 c2) fun rr=>gN Tryz.prog 175 [.ptr 0 0] [(0,.obj 158 [.d (gE 1 iD c0),.d (gE 1 iD c1),.d (iD c2)])] 1 fun xx ss=>xx=.d (iD rr.1)/\ss=[(0,.obj 158 [.d (gE 1 iD c0),.d (gE 1 iD c1),.d (iD rr.2)])]:=⟨@fun rr h=>by
 delta nP at h;refine W3.jO (gC ?_);delta Tj;refine g_ ?_;exact mm⟩
def SU:gH:=
 (.seq (.gD (sq 2 [mb false])) (.seq (.seq (.gD (sq 3 [mi 1])) (.block 0 (.loop (.seq (.seq (.gD (sq 5 [mv 3,bi .gtr 5 0])) (.cond (t0 6) .skip (.exit 0))) (.seq (.block 1 (.seq (.gD (sq 9 [mv 0,cf 175 [9]]++sq 4 [mv 10])) (.seq (.seq (.gD (sq 11 [mv 4,bi .lss 11 0])) (.cond (t0 12) (.seq (.gD (sq 2 [mb false])) .ret) .skip)) (.gD (sq 13 [mv 3,mv 4,bn .add 13 14]++sq 3 [mv 15]))))) (.gD (sq 7 [mv 3,bi .sub 7 1]++sq 3 [mv 8]))))))) (.seq (.gD (sq 2 [mb true])) .ret)))
theorem WC:jT Tryz.prog 141 SU 16 [.tmp 2]:=mf Tryz.func141 Tryz.ntmps141
def qj(c0:fP)(c1:fP):gr->Option (gr⊕(Bool×Int))
 |(need,c)=>
  if(decide (0<need))=true then
   (nP c0 c1 c).bind fun r=>
   if(decide (r.1<0))=true then
    Option.map Sum.inr (
     some (false,r.2))
   else
    some (.inl ((IntKind.i64.wrap ((IntKind.i64.wrap (need+r.1))-1)),r.2))
  else
   Option.map Sum.inr (
    some (true,c))
def nQ(c0:fP)(c1:fP)(c2:Int):Option (Bool×Int):=
 gK (qj c0 c1) (1,c2)
instance Il{c0:fP}{c1:fP}{c2:Int}:gW (nQ c0 c1 c2) fun rr=>gN Tryz.prog 141 [.ptr 0 0] [(0,.obj 158 [.d (gE 1 iD c0),.d (gE 1 iD c1),.d (iD c2)])] 1 fun xx ss=>xx=.d (bD rr.1)/\ss=[(0,.obj 158 [.d (gE 1 iD c0),.d (gE 1 iD c1),.d (iD rr.2)])]:=⟨@fun rr h=>by
 delta nQ at h;refine WC.jO (gC ?_);delta SU;refine g_ ?_;refine jk h [2,3,4,5,6,7,8,9,10,11,12,13,14,15] (fun pp=>[(3,.d (iD pp.1))]) (fun pp=>[(0,.obj 158 [.d (gE 1 iD c0),.d (gE 1 iD c1),.d (iD pp.2)])]) ?_;rintro⟨need,c⟩ t1 h hb1;unfold qj at h;try dsimp only at h
 refine gC (g_ ?_);refine iT h fun hc h=>?_
 refine lM [(0,0)] [] h fun r hr h=>?_
 exact mm⟩
def Yc:gH:=
 (.seq (.gD (sq 3 [bo 3 27 0]++sq 6 [mi 0])) (.seq (.gD (sq 8 [la 1 3,mv 1,mv 2,.build [.sl 0 (some true) [],.sl 0 (some true) [],.lit (.int .i64 0)] [(0,1,(t0 8)),(1,1,(t0 9)),(2,1,(t0 10))]]++sq 7 [.alloc 7 158 [.sl 0 (some true) [],.sl 0 (some true) [],.lit (.int .i64 0)]]++s0 (sr 3 7 11))) (.seq (.seq (.gD (sq 12 [cf 141 [7],nt 12])) (.cond (t0 13) (.seq (.gD (sq 6 [mi (-1)])) .ret) .skip)) (.seq (.gD (sq 14 [fa 2 7,ld 14]++sq 6 [mv 15])) .ret))))
theorem ZF:jT Tryz.prog 90 Yc 16 [.tmp 6]:=mf Tryz.func90 Tryz.ntmps90
def ox(sig:fP)(t:fP)(jV:Int):Option Int:=
 (nQ sig t jV).bind fun r=>
 if r.1=true then
  some r.2
 else
  some (-1)
instance Qj{sig:fP}{t:fP}{jV:Int}:gW (ox sig t jV) fun rr=>iC Tryz.prog 90 [gQ sig,(gE 1 iD) t,iD jV] (iD rr):=⟨@fun rr h=>by
 delta ox at h;refine ZF.iA (gC ?_);delta Yc;refine g_ ?_;refine lM [(0,7)] [] h fun r hr h=>?_
 exact mm⟩
def XM:gH:=
 (.seq (.gD (sq 2 [bo 2 27 0]++sq 4 [mb false])) (.seq (.gD (sq 5 [la 1 2,cf 88 [5],mv 6]++sg 7 true 8 [mv 1,ln 8,bi .gtr 9 0]++sq 11 [pa 7 10,mv 11]++sg 12 true 13 [mv 1,ln 13,bi .leq 14 60]++sq 16 [pa 12 15,mv 16]++sg 17 true 18 [mv 1,cf 89 [18],bi .geq 19 (-24)]++sq 21 [pa 17 20,mv 21]++sg 22 true 23 [la 1 2,mv 1,.iw 90 [(t0 23),(t0 24),(i0 0)],mv 1,ln 26,bn .eql 25 27]++sq 29 [pa 22 28]++sq 4 [mv 29])) .ret))
theorem Ze:jT Tryz.prog 53 XM 30 [.tmp 4]:=mf Tryz.func53 Tryz.ntmps53
def oF(sig:fP)(t:fP):Option Bool:=
 (pJ sig).bind fun r=>
 if r=true then
  if(decide (0<(t.length:Int)))=true then
   if(decide ((t.length:Int)<=60))=true then
    (jR t).bind fun r_1=>
    if(decide ((-24)<=r_1))=true then
     (ox sig t 0).bind fun r_2=>
     some (r_2==(t.length:Int))
    else
     some false
   else
    some false
  else
   some false
 else
  some false
instance Py{sig:fP}{t:fP}:gW (oF sig t) fun rr=>iC Tryz.prog 53 [gQ sig,(gE 1 iD) t] (bD rr):=⟨@fun rr h=>by
 delta oF at h;refine Ze.iA (gC ?_);delta XM;refine g_ ?_;exact mm⟩
def XT:gH:=
 (.seq (.gD (sq 6 [mb false])) (.seq (.gD (sq 7 [mv 0,mv 1,bn .geq 7 8,mv 9]++sg 10 true 11 [mv 0,mv 2,bn .leq 11 12]++sq 14 [pa 10 13]++sq 6 [mv 14])) .ret))
theorem Zl:jT Tryz.prog 66 XT 15 [.tmp 6]:=mf Tryz.func66 Tryz.ntmps66
def mR(x:Int)(lo:Int)(hi:Int):Option Bool:=
 if(decide (lo<=x))=true then
  some (decide (x<=hi))
 else
  some false
instance R5{x:Int}{lo:Int}{hi:Int}:gW (mR x lo hi) fun rr=>iC Tryz.prog 66 [iD x,iD lo,iD hi] (bD rr):=⟨@fun rr h=>by
 delta mR at h;refine Zl.iA (gC ?_);delta XT;refine g_ ?_;exact mm⟩
def Sm:gH:=
 (.seq (.gD (sq 1 [bo 1 27 0,mb false])) (.seq (.seq (.gD (sq 4 [fa 0 1,ld 4,ln 5,.iw 66 [(t0 6),(i0 1),(i0 8)],nt 7])) (.cond (t0 8) (.seq (.gD (sq 2 [mb false])) .ret) .skip)) (.seq (.seq (.gD (sq 3 [mi 0])) (.block 0 (.loop (.seq (.seq (.gD (sq 9 [mv 3,fa 0 1,ld 10,ln 11,bn .lss 9 12])) (.cond (t0 13) .skip (.exit 0))) (.seq (.block 1 (.seq (.gD (sq 16 [fa 0 1,ld 16,mv 3,ix 1 17 18,ld 19,.iw 66 [(t0 20),(i0 0),(i0 3)],nt 21])) (.cond (t0 22) (.seq (.gD (sq 2 [mb false])) .ret) .skip))) (.gD (sq 14 [mv 3,bi .add 14 1]++sq 3 [mv 15]))))))) (.seq (.gD (sq 2 [mb true])) .ret))))
theorem V8:jT Tryz.prog 104 Sm 23 [.tmp 2]:=mf Tryz.func104 Tryz.ntmps104
def sk(sig:fP):Int->Option fT
 |f=>
  if(decide (f<(sig.length:Int)))=true then
   if 0<=f/\f<(sig.length:Int)then
    (mR (sig.getD f.toNat default) 0 3).bind fun r_1=>
    if r_1=true then
     some (.inl (IntKind.i64.wrap (f+1)))
    else
     Option.map Sum.inr (
      some false)
   else none
  else
   Option.map Sum.inr (
    some true)
def oz(sig:fP):Option Bool:=
 (mR (sig.length:Int) 1 8).bind fun r=>
 if r=true then
  gK (sk sig) 0
 else
  some false
instance Qm{sig:fP}:gW (oz sig) fun rr=>iC Tryz.prog 104 [gQ sig] (bD rr):=⟨@fun rr h=>by
 delta oz at h;refine V8.iA (gC ?_);delta Sm;refine g_ ?_;refine rC h fun r hr h=>?_
 refine iT h fun hc h=>?_
 refine jk h [2,3,9,10,11,12,13,14,15,16,17,18,19,20,21,22] (fun pp=>[(3,.d (iD pp))]) (fun pp=>[(1,.obj 27 [.d (gE 1 iD sig)])]) ?_;rintro f t1 h hb1;unfold sk at h;try dsimp only at h
 refine gC (g_ ?_);exact mm⟩
def S6:gH:=
 (.seq (.gD (sq 2 [bo 2 27 0]++sq 4 [mi 0])) (.seq (.block 0 (.seq (.gD (sq 6 [mv 1,.iw 66 [(t0 6),(i0 (-24)),(i0 (-1))]]++sq 5 [mv 7])) (.cond (t0 5) (.seq (.gD (sq 4 [mi 0])) .ret) (.seq (.gD (sq 9 [mv 1,fa 0 2,ld 10,ln 11,bi .sub 12 1,.iw 66 [(t0 9),(i0 0),(t0 13)]]++sq 8 [mv 14])) (.cond (t0 8) (.seq (.gD (sq 15 [fa 0 2,ld 15,mv 1,ix 1 16 17,ld 18]++sq 4 [mv 19])) .ret) .skip))))) (.seq (.gD (sq 4 [mi (-1)])) .ret)))
theorem WO:jT Tryz.prog 159 S6 20 [.tmp 4]:=mf Tryz.func159 Tryz.ntmps159
def oQ(sig:fP)(n:Int):Option Int:=
 (mR n (-24) (-1)).bind fun r=>
 if r=true then
  some 0
 else
  (mR n 0 (IntKind.i64.wrap ((sig.length:Int)-1))).bind fun r_1=>
  if r_1=true then
   if 0<=n/\n<(sig.length:Int)then
    some (sig.getD n.toNat default)
   else none
  else
   some (-1)
instance M0{sig:fP}{n:Int}:gW (oQ sig n) fun rr=>iC Tryz.prog 159 [gQ sig,iD n] (iD rr):=⟨@fun rr h=>by
 delta oQ at h;refine WO.iA (gC ?_);delta S6;refine g_ ?_;exact mm⟩
def Sq:gH:=
 (.seq (.gD (sq 3 [bo 3 27 0]++sq 6 [mi 0])) (.seq (.gD (sq 7 [mi 1])) (.seq (.seq (.gD (sq 10 [mv 2]++sq 8 [mv 10])) (.block 0 (.loop (.seq (.seq (.gD (sq 11 [mv 8,mv 1,ln 12,bn .lss 11 13])) (.cond (t0 14) .skip (.exit 0))) (.seq (.block 1 (.seq (.draw (sq 17 [la 1 3,mv 1,mv 8,ix 1 18 19,ld 20,cf 159 [17,21]]++sq 9 [mv 22]) [[],[],[],[1,2],[3],[0,4],[5,5,0,1,2,3,4,5]]) (.seq (.seq (.gD (sq 23 [mv 9,bi .lss 23 0])) (.cond (t0 24) (.seq (.gD (sq 6 [mi (-1)])) .ret) .skip)) (.seq (.gD (sq 25 [mv 7,mv 9,bn .add 25 26,bi .sub 27 1]++sq 7 [mv 28])) (.seq (.gD (sq 29 [mv 7,bi .eql 29 0])) (.cond (t0 30) (.seq (.gD (sq 31 [mv 8,bi .add 31 1]++sq 6 [mv 32])) .ret) .skip)))))) (.gD (sq 15 [mv 8,bi .add 15 1]++sq 8 [mv 16]))))))) (.seq (.gD (sq 6 [mi (-1)])) .ret))))
theorem V_:jT Tryz.prog 106 Sq 33 [.tmp 6]:=mf Tryz.func106 Tryz.ntmps106
def vm(sig:fP)(t:fP):gr->Option (gr⊕Int)
 |(need,i)=>
  if(decide (i<(t.length:Int)))=true then
   if 0<=i/\i<(t.length:Int)then
    (oQ sig (t.getD i.toNat default)).bind fun r=>
    if(decide (r<0))=true then
     Option.map Sum.inr (
      some (-1))
    else
     if((IntKind.i64.wrap ((IntKind.i64.wrap (need+r))-1))==0)=true then
      Option.map Sum.inr (
       some (IntKind.i64.wrap (i+1)))
     else
      some (.inl ((IntKind.i64.wrap ((IntKind.i64.wrap (need+r))-1)),(IntKind.i64.wrap (i+1))))
   else none
  else
   Option.map Sum.inr (
    some (-1))
def nA(sig:fP)(t:fP)(jV:Int):Option Int:=
 gK (vm sig t) (1,jV)
instance Qn{sig:fP}{t:fP}{jV:Int}:gW (nA sig t jV) fun rr=>iC Tryz.prog 106 [gQ sig,(gE 1 iD) t,iD jV] (iD rr):=⟨@fun rr h=>by
 delta nA at h;refine V_.iA (gC ?_);delta Sq;refine g_ ?_;refine jk h [6,7,8,9,11,12,13,14,15,16,17,18,19,20,21,22,23,24,25,26,27,28,29,30,31,32] (fun pp=>[(7,.d (iD pp.1)),(8,.d (iD pp.2))]) (fun pp=>[(3,.obj 27 [.d (gE 1 iD sig)])]) ?_;rintro⟨need,i⟩ t1 h hb1;unfold vm at h;try dsimp only at h
 refine gC (g_ ?_);exact mm⟩
def XP:gH:=
 (.seq (.gD (sq 2 [bo 2 27 0]++sq 4 [mb false])) (.seq (.gD (sq 5 [la 1 2,cf 104 [5],mv 6]++sg 7 true 8 [mv 1,ln 8,.iw 66 [(t0 9),(i0 1),(i0 60)]]++sq 11 [pa 7 10,mv 11]++sg 12 true 13 [la 1 2,mv 1,.iw 106 [(t0 13),(t0 14),(i0 0)],mv 1,ln 16,bn .eql 15 17]++sq 19 [pa 12 18]++sq 4 [mv 19])) .ret))
theorem Zh:jT Tryz.prog 60 XP 20 [.tmp 4]:=mf Tryz.func60 Tryz.ntmps60
def nF(sig:fP)(t:fP):Option Bool:=
 (oz sig).bind fun r=>
 if r=true then
  (mR (t.length:Int) 1 60).bind fun r_1=>
  if r_1=true then
   (nA sig t 0).bind fun r_2=>
   some (r_2==(t.length:Int))
  else
   some false
 else
  some false
instance PE{sig:fP}{t:fP}:gW (nF sig t) fun rr=>iC Tryz.prog 60 [gQ sig,(gE 1 iD) t] (bD rr):=⟨@fun rr h=>by
 delta nF at h;refine Zh.iA (gC ?_);delta XP;refine g_ ?_;exact mm⟩
def Tt:gH:=
 (.seq (.gD (sq 4 [mi 0])) (.seq (.seq (.gD (sq 6 [mv 0,ln 6,mi 0])) (.block 0 (.loop (.seq (.gD (sq 9 [bn .lss 8 7])) (.seq (.cond (t0 9) .skip (.exit 0)) (.seq (.block 1 (.seq (.gD (sq 10 [mv 8]++sq 5 [mv 10])) (.seq (.gD (sq 11 [mv 1,mv 0,mv 5,ix 1 12 13,ld 14,bn .eql 11 15])) (.cond (t0 16) (.seq (.gD (sq 17 [mv 5]++sq 4 [mv 17])) .ret) .skip)))) (.gD (sq 18 [bi .add 8 1]++sq 8 [mv 18])))))))) (.seq (.gD (sq 4 [mi (-1)])) .ret)))
theorem Xb:jT Tryz.prog 195 Tt 19 [.tmp 4]:=mf Tryz.func195 Tryz.ntmps195
def mP(s:fP)(v:Int):Int->Option (Int⊕Int)
 |v8=>
  if(decide (v8<(s.length:Int)))=true then
   if 0<=v8/\v8<(s.length:Int)then
    if(v==(s.getD v8.toNat default))=true then
     Option.map Sum.inr (
      some v8)
    else
     some (.inl (IntKind.i64.wrap (v8+1)))
   else none
  else
   Option.map Sum.inr (
    some (-1))
def kC(s:fP)(v:Int):Option Int:=
 gK (mP s v) 0
instance Df{s:fP}{v:Int}:gW (kC s v) fun rr=>iC Tryz.prog 195 [(gE 1 iD) s,iD v] (iD rr):=⟨@fun rr h=>by
 delta kC at h;refine Xb.iA (gC ?_);delta Tt;refine g_ ?_;refine jk h [4,5,8,9,10,11,12,13,14,15,16,17,18] (fun pp=>[(8,.d (iD pp))]) (fun pp=>[]) ?_;rintro v8 t1 h hb1;unfold mP at h;try dsimp only at h
 refine gC (g_ ?_);exact mm⟩
def Ta:gH:=
 (.seq (.gD (sq 4 [mb false])) (.seq (.gD (sq 5 [mv 0,mv 1,cf 195 [5,6],bi .geq 7 0]++sq 4 [mv 8])) .ret))
theorem WU:jT Tryz.prog 164 Ta 9 [.tmp 4]:=mf Tryz.func164 Tryz.ntmps164
def iZ(s:fP)(v:Int):Option Bool:=
 (kC s v).bind fun r=>
 some (decide (0<=r))
instance Cd{s:fP}{v:Int}:gW (iZ s v) fun rr=>iC Tryz.prog 164 [(gE 1 iD) s,iD v] (bD rr):=⟨@fun rr h=>by
 delta iZ at h;refine WU.iA (gC ?_);delta Ta;refine g_ ?_;exact mm⟩
def SB:gH:=
 (.seq (.gD (sq 2 [bo 2 27 0,bo 3 135 1,mb false])) (.seq (.seq (.gD (sq 7 [la 1 2,fa 0 3,ld 8,cf 53 [7,9],nt 10,mv 11]++sg 12 false 13 [la 1 2,fa 1 3,ld 14,cf 53 [13,15],nt 16]++sq 18 [po 12 17,mv 18]++sg 19 false 20 [fa 0 3,ld 20,.tD 1 (t0 21) (i0 0),ld 22,bi .lss 23 0]++sq 25 [po 19 24])) (.cond (t0 25) (.seq (.gD (sq 4 [mb false])) .ret) .skip)) (.seq (.seq (.gD (sq 26 [fa 1 3,ld 26,ln 27,mi 0])) (.block 0 (.loop (.seq (.gD (sq 30 [bn .lss 29 28])) (.seq (.cond (t0 30) .skip (.exit 0)) (.seq (.block 1 (.seq (.gD (sq 31 [ix 1 27 29,ld 31]++sq 6 [mv 32])) (.seq (.gD (sq 33 [mv 6,bi .lss 33 0,mv 34]++sg 35 true 36 [fa 0 3,ld 36,mv 6,cf 164 [37,38],nt 39]++sq 41 [pa 35 40])) (.cond (t0 41) (.seq (.gD (sq 4 [mb false])) .ret) .skip)))) (.gD (sq 42 [bi .add 29 1]++sq 29 [mv 42])))))))) (.seq (.gD (sq 4 [mb true])) .ret))))
theorem Wk:jT Tryz.prog 119 SB 43 [.tmp 4]:=mf Tryz.func119 Tryz.ntmps119
def qP(r:fR):Int->Option fT
 |v29=>
  if(decide (v29<(r.2.length:Int)))=true then
   if 0<=v29/\v29<(r.2.length:Int)then
    if(decide ((r.2.getD v29.toNat default)<0))=true then
     (iZ r.1 (r.2.getD v29.toNat default)).bind fun r_3=>
     if r_3=true then
      some (.inl (IntKind.i64.wrap (v29+1)))
     else
      Option.map Sum.inr (
       some false)
    else
     some (.inl (IntKind.i64.wrap (v29+1)))
   else none
  else
   Option.map Sum.inr (
    some true)
def rK(sig:fP)(r:fR):Option Bool:=
 (oF sig r.1).bind fun r_1=>
 if r_1=true then
  (oF sig r.2).bind fun r_2=>
  if r_2=true then
   if 0<=0/\0<(r.1.length:Int)then
    if(decide ((r.1.getD 0 default)<0))=true then
     some false
    else
     gK (qP r) 0
   else none
  else
   some false
 else
  some false
instance Px{sig:fP}{r:fR}:gW (rK sig r) fun rr=>iC Tryz.prog 119 [gQ sig,ir r] (bD rr):=⟨@fun rr h=>by
 delta rK at h;refine Wk.iA (gC ?_);delta SB;refine g_ ?_;refine rC h fun r_1 hr_1 h=>?_
 refine iT h fun hc h=>?_
 refine rC h fun r_2 hr_2 h=>?_
 refine iT h fun hc h=>?_
 refine iU h fun hp h=>?_
 refine iF h fun hc h=>?_
 refine jk h [4,6,29,30,31,32,33,34,35,36,37,38,39,40,41,42] (fun pp=>[(29,.d (iD pp))]) (fun pp=>[(2,.obj 27 [.d (gE 1 iD sig)]),(3,.obj 135 [.d (gE 1 iD r.1),.d (gE 1 iD r.2)])]) ?_;rintro v29 t1 h hb1;unfold qP at h;try dsimp only at h
 refine gC (g_ ?_);exact mm⟩
def XV:gH:=
 (.seq (.gD (sq 1 [bo 1 58 0,mb false])) (.seq (.seq (.gD (sq 5 [fa 0 1,la 1 5,cf 88 [6],nt 7,mv 8]++sg 9 false 10 [fa 1 1,ld 10,ln 11,bi .gtr 12 12]++sq 14 [po 9 13])) (.cond (t0 14) (.seq (.gD (sq 2 [mb false])) .ret) .skip)) (.seq (.seq (.gD (sq 15 [fa 1 1,ld 15,ln 16,mi 0])) (.block 0 (.loop (.seq (.gD (sq 19 [bn .lss 18 17])) (.seq (.cond (t0 19) .skip (.exit 0)) (.seq (.block 1 (.seq (.gD (sq 20 [ix 2 16 18,la 2 20]++sq 4 [.alloc 4 135 [.sl 0 (some true) [],.sl 0 (some true) []]]++s0 (sr 2 4 21))) (.seq (.gD (sq 22 [fa 0 1,la 1 22,la 2 4,cf 119 [23,24],nt 25])) (.cond (t0 26) (.seq (.gD (sq 2 [mb false])) .ret) .skip)))) (.gD (sq 27 [bi .add 18 1]++sq 18 [mv 27])))))))) (.seq (.gD (sq 2 [mb true])) .ret))))
theorem Zn:jT Tryz.prog 69 XV 28 [.tmp 2]:=mf Tryz.func69 Tryz.ntmps69
def pK(sys:gj):Int->Option fT
 |v18=>
  if(decide (v18<(sys.2.length:Int)))=true then
   if 0<=v18/\v18<(sys.2.length:Int)then
    (rK sys.1 ((sys.2.getD v18.toNat default).1,(sys.2.getD v18.toNat default).2)).bind fun r_1=>
    if r_1=true then
     some (.inl (IntKind.i64.wrap (v18+1)))
    else
     Option.map Sum.inr (
      some false)
   else none
  else
   Option.map Sum.inr (
    some true)
def oo(sys:gj):Option Bool:=
 (pJ sys.1).bind fun r=>
 if r=true then
  if(decide (12<(sys.2.length:Int)))=true then
   some false
  else
   gK (pK sys) 0
 else
  some false
instance Mg{sys:gj}:gW (oo sys) fun rr=>iC Tryz.prog 69 [ja sys] (bD rr):=⟨@fun rr h=>by
 delta oo at h;refine Zn.iA (gC ?_);delta XV;refine g_ ?_;refine rC h fun r hr h=>?_
 refine iT h fun hc h=>?_
 refine iF h fun hc h=>?_
 refine jk h [2,4,18,19,20,21,22,23,24,25,26,27] (fun pp=>[(18,.d (iD pp))]) (fun pp=>[(1,.obj 58 [.d (gE 1 iD sys.1),.d (gE 2 ir sys.2)])]) ?_;rintro v18 t1 h hb1;unfold pK at h;try dsimp only at h
 refine gC (g_ ?_);refine iT h fun hc h=>?_
 refine iU h fun hp h=>?_
 refine rC h fun r_1 hr_1 h=>?_
 refine iT h fun hc h=>?_
 cases h;refine⟨_,rfl,?_⟩;refine(gT.drop 4 gB).trans ?_;exact wk⟩
def Sr:gH:=
 (.seq (.gD (sq 4 [mb false])) (.seq (.seq (.gD (sq 5 [mi 0])) (.block 0 (.loop (.seq (.seq (.gD (sq 6 [mv 5,mv 0,ln 7,bn .lss 6 8])) (.cond (t0 9) .skip (.exit 0))) (.seq (.block 1 (.seq (.gD (sq 12 [mv 0,mv 5,ix 1 12 13,ld 14,mv 1,bn .eql 15 16])) (.cond (t0 17) (.seq (.gD (sq 4 [mb true])) .ret) .skip))) (.gD (sq 10 [mv 5,bi .add 10 1]++sq 5 [mv 11]))))))) (.seq (.gD (sq 4 [mb false])) .ret)))
theorem Wa:jT Tryz.prog 107 Sr 18 [.tmp 4]:=mf Tryz.func107 Tryz.ntmps107
def sw(s:fP)(n:Int):Int->Option fT
 |i=>
  if(decide (i<(s.length:Int)))=true then
   if 0<=i/\i<(s.length:Int)then
    if((s.getD i.toNat default)==n)=true then
     Option.map Sum.inr (
      some true)
    else
     some (.inl (IntKind.i64.wrap (i+1)))
   else none
  else
   Option.map Sum.inr (
    some false)
def kK(s:fP)(n:Int):Option Bool:=
 gK (sw s n) 0
instance Qo{s:fP}{n:Int}:gW (kK s n) fun rr=>iC Tryz.prog 107 [(gE 1 iD) s,iD n] (bD rr):=⟨@fun rr h=>by
 delta kK at h;refine Wa.iA (gC ?_);delta Sr;refine g_ ?_;refine jk h [4,5,6,7,8,9,10,11,12,13,14,15,16,17] (fun pp=>[(5,.d (iD pp))]) (fun pp=>[]) ?_;rintro i t1 h hb1;unfold sw at h;try dsimp only at h
 refine gC (g_ ?_);exact mm⟩
def Sy:gH:=
 (.seq (.gD (sq 2 [bo 2 27 0,bo 3 135 1,mb false])) (.seq (.seq (.gD (sq 6 [la 1 2,fa 0 3,ld 7,cf 60 [6,8],nt 9,mv 10]++sg 11 false 12 [la 1 2,fa 1 3,ld 13,cf 60 [12,14],nt 15]++sq 17 [po 11 16,mv 17]++sg 18 false 19 [fa 0 3,ld 19,.tD 1 (t0 20) (i0 0),ld 21,bi .lss 22 0]++sq 24 [po 18 23])) (.cond (t0 24) (.seq (.gD (sq 4 [mb false])) .ret) .skip)) (.seq (.seq (.gD (sq 5 [mi 0])) (.block 0 (.loop (.seq (.seq (.gD (sq 25 [mv 5,fa 1 3,ld 26,ln 27,bn .lss 25 28])) (.cond (t0 29) .skip (.exit 0))) (.seq (.block 1 (.seq (.draw (sq 32 [fa 1 3,ld 32,mv 5,ix 1 33 34,ld 35,bi .lss 36 0,mv 37]++sg 38 true 39 [fa 0 3,ld 39,fa 1 3,ld 41,mv 5,ix 1 42 43,ld 44,cf 107 [40,45],nt 46]++sq 48 [pa 38 47]) [[],[0],[],[1,2],[3],[4],[5],[6],[7,6],[6],[9,6],[6],[10,11,6],[12,6],[8,13,6,6],[14,6],[6,15]]) (.cond (t0 48) (.seq (.gD (sq 4 [mb false])) .ret) .skip))) (.gD (sq 30 [mv 5,bi .add 30 1]++sq 5 [mv 31]))))))) (.seq (.gD (sq 4 [mb true])) .ret))))
theorem Wh:jT Tryz.prog 115 Sy 49 [.tmp 4]:=mf Tryz.func115 Tryz.ntmps115
def qR(r:fR):Int->Option fT
 |i=>
  if(decide (i<(r.2.length:Int)))=true then
   if 0<=i/\i<(r.2.length:Int)then
    if(decide ((r.2.getD i.toNat default)<0))=true then
     if 0<=i/\i<(r.2.length:Int)then
      (kK r.1 (r.2.getD i.toNat default)).bind fun r_3=>
      if r_3=true then
       some (.inl (IntKind.i64.wrap (i+1)))
      else
       Option.map Sum.inr (
        some false)
     else none
    else
     some (.inl (IntKind.i64.wrap (i+1)))
   else none
  else
   Option.map Sum.inr (
    some true)
def rM(sig:fP)(r:fR):Option Bool:=
 (nF sig r.1).bind fun r_1=>
 if r_1=true then
  (nF sig r.2).bind fun r_2=>
  if r_2=true then
   if 0<=0/\0<(r.1.length:Int)then
    if(decide ((r.1.getD 0 default)<0))=true then
     some false
    else
     gK (qR r) 0
   else none
  else
   some false
 else
  some false
instance PD{sig:fP}{r:fR}:gW (rM sig r) fun rr=>iC Tryz.prog 115 [gQ sig,ir r] (bD rr):=⟨@fun rr h=>by
 delta rM at h;refine Wh.iA (gC ?_);delta Sy;refine g_ ?_;refine rC h fun r_1 hr_1 h=>?_
 refine iT h fun hc h=>?_
 refine rC h fun r_2 hr_2 h=>?_
 refine iT h fun hc h=>?_
 refine iU h fun hp h=>?_
 refine iF h fun hc h=>?_
 refine jk h [4,5,25,26,27,28,29,30,31,32,33,34,35,36,37,38,39,40,41,42,43,44,45,46,47,48] (fun pp=>[(5,.d (iD pp))]) (fun pp=>[(2,.obj 27 [.d (gE 1 iD sig)]),(3,.obj 135 [.d (gE 1 iD r.1),.d (gE 1 iD r.2)])]) ?_;rintro i t1 h hb1;unfold qR at h;try dsimp only at h
 refine gC (g_ ?_);exact mm⟩
def XS:gH:=
 (.seq (.gD (sq 1 [bo 1 58 0,mb false])) (.seq (.seq (.gD (sq 4 [fa 0 1,la 1 4,cf 104 [5],nt 6,mv 7]++sg 8 false 9 [fa 1 1,ld 9,ln 10,bi .gtr 11 12]++sq 13 [po 8 12])) (.cond (t0 13) (.seq (.gD (sq 2 [mb false])) .ret) .skip)) (.seq (.seq (.gD (sq 3 [mi 0])) (.block 0 (.loop (.seq (.seq (.gD (sq 14 [mv 3,fa 1 1,ld 15,ln 16,bn .lss 14 17])) (.cond (t0 18) .skip (.exit 0))) (.seq (.block 1 (.seq (.draw (sq 21 [fa 0 1,la 1 21,fa 1 1,ld 23,mv 3,ix 2 24 25,la 2 26,cf 115 [22,27],nt 28]) [[],[0],[],[2],[],[3,4],[5],[1,6],[7]]) (.cond (t0 29) (.seq (.gD (sq 2 [mb false])) .ret) .skip))) (.gD (sq 19 [mv 3,bi .add 19 1]++sq 3 [mv 20]))))))) (.seq (.gD (sq 2 [mb true])) .ret))))
theorem Zk:jT Tryz.prog 65 XS 30 [.tmp 2]:=mf Tryz.func65 Tryz.ntmps65
def pP(sys:gj):Int->Option fT
 |i=>
  if(decide (i<(sys.2.length:Int)))=true then
   if 0<=i/\i<(sys.2.length:Int)then
    (rM sys.1 ((sys.2.getD i.toNat default).1,(sys.2.getD i.toNat default).2)).bind fun r_1=>
    if r_1=true then
     some (.inl (IntKind.i64.wrap (i+1)))
    else
     Option.map Sum.inr (
      some false)
   else none
  else
   Option.map Sum.inr (
    some true)
def mu(sys:gj):Option Bool:=
 (oz sys.1).bind fun r=>
 if r=true then
  if(decide (12<(sys.2.length:Int)))=true then
   some false
  else
   gK (pP sys) 0
 else
  some false
instance Mm{sys:gj}:gW (mu sys) fun rr=>iC Tryz.prog 65 [ja sys] (bD rr):=⟨@fun rr h=>by
 delta mu at h;refine Zk.iA (gC ?_);delta XS;refine g_ ?_;refine rC h fun r hr h=>?_
 refine iT h fun hc h=>?_
 refine iF h fun hc h=>?_
 refine jk h [2,3,14,15,16,17,18,19,20,21,22,23,24,25,26,27,28,29] (fun pp=>[(3,.d (iD pp))]) (fun pp=>[(1,.obj 58 [.d (gE 1 iD sys.1),.d (gE 2 ir sys.2)])]) ?_;rintro i t1 h hb1;unfold pP at h;try dsimp only at h
 refine gC (g_ ?_);exact mm⟩
def jJ(x:fQ):D:=.agg [(gE 1 (gE 1 iD)) x]
instance:yG jJ 1:=⟨fun _=>rfl⟩
attribute [go_sem] jJ
def SF:gH:=
 (.seq (.gD (sq 3 [bo 3 27 0]++sq 6 [.mv (.const (.slice none 0 0))])) (.seq (.gD (sq 7 [mv 1,mv 2,la 1 3,mv 1,mv 2,cf 90 [9,10,11],.slc (t0 7) 1 (some (t0 8)) (some (t0 12)) none]++sq 6 [mv 13])) .ret))
theorem Wo:jT Tryz.prog 124 SF 14 [.tmp 6]:=mf Tryz.func124 Tryz.ntmps124
def nr(sig:fP)(t:fP)(jV:Int):Option fP:=
 (ox sig t jV).bind fun r=>
 if 0<=jV/\jV<=r/\r<=(t.length:Int)then
  some ((t.take r.toNat).drop jV.toNat)
 else none
instance Ql{sig:fP}{t:fP}{jV:Int}:gW (nr sig t jV) fun rr=>iC Tryz.prog 124 [gQ sig,(gE 1 iD) t,iD jV] ((gE 1 iD) rr):=⟨@fun rr h=>by
 delta nr at h;refine Wo.iA (gC ?_);delta SF;refine g_ ?_;exact mm⟩
def SE:gH:=
 (.seq (.gD (sq 3 [bo 3 27 0]++sq 6 [.mv (.const (.slice none 0 0))])) (.seq (.gD (sq 7 [.mv (.const (.slice none 0 0))])) (.seq (.gD (sq 10 [mv 2,bi .add 10 1]++sq 8 [mv 11])) (.seq (.seq (.draw (sq 12 [la 1 3,mv 1,mv 2,ix 1 13 14,ld 15,cf 166 [12,16]]++sq 9 [mv 17]) [[],[],[],[1,2],[3],[0,4],[5,5,0,1,2,3,4,5]]) (.block 0 (.loop (.seq (.seq (.gD (sq 18 [mv 9,bi .gtr 18 0])) (.cond (t0 19) .skip (.exit 0))) (.seq (.block 1 (.seq (.gD (sq 22 [mv 7,mv 8,.lQ 24 3 1 [(t0 23)],ap 25 3 1 8 22 24]++sq 7 [mv 25])) (.gD (sq 26 [la 1 3,mv 1,mv 8,cf 90 [26,27,28]]++sq 8 [mv 29])))) (.gD (sq 20 [mv 9,bi .sub 20 1]++sq 9 [mv 21]))))))) (.seq (.gD (sq 30 [mv 7]++sq 6 [mv 30])) .ret)))))
theorem Wn:jT Tryz.prog 123 SE 31 [.tmp 6]:=mf Tryz.func123 Tryz.ntmps123
def uk(sig:fP)(t:fP):fS->Option (fS⊕fP)
 |(out,next',n)=>
  if(decide (0<n))=true then
   if(out.length+1)*8<=140737488355328 then
    (ox sig t next').bind fun r_1=>
    some (.inl ((out++[next']),r_1,(IntKind.i64.wrap (n-1))))
   else none
  else
   Option.map Sum.inr (
    some out)
def nE(sig:fP)(t:fP)(jV:Int):Option fP:=
 if 0<=jV/\jV<(t.length:Int)then
  (oN sig (t.getD jV.toNat default)).bind fun r=>
  gK (uk sig t) ([],(IntKind.i64.wrap (jV+1)),r)
 else none
instance PA{sig:fP}{t:fP}{jV:Int}:gW (nE sig t jV) fun rr=>iC Tryz.prog 123 [gQ sig,(gE 1 iD) t,iD jV] ((gE 1 iD) rr):=⟨@fun rr h=>by
 delta nE at h;refine Wn.iA (gC ?_);delta SE;refine g_ ?_;refine iU h fun hp h=>?_
 refine dC h fun r hr h=>?_
 refine i_ (by kernel_rfl) (g_ ?_);refine mO h [7,8,9,18,19,20,21,22,23,24,25,26,27,28,29] (fun pp=>[(7,.own 1 25 (List.map iD pp.1)),(8,.d (iD pp.2.1)),(9,.d (iD pp.2.2))]) (fun pp=>[(3,.obj 27 [.d (gE 1 iD sig)]),(25,.tok 3 1 pp.1.length)]) ?_ ?_
 ·try dsimp only
  refine(gT.EB 7 25 3 1 rfl rfl).trans ?_;exact wk
 rintro⟨out,next',n⟩ t1 h hb1;unfold uk at h;try dsimp only at h
 refine gC (g_ ?_);refine iT h fun hc h=>?_
 refine iU h fun hp h=>?_
 refine rC h fun r_1 hr_1 h=>?_
 cases h;refine⟨_,rfl,?_⟩;refine(gT.drop 24 gB).trans ?_;exact wk⟩
def Sn:gH:=
 (.seq (.gD (sq 2 [.mv (.const (.slice none 0 0))])) (.seq (.gD (sq 3 [.lQ 3 2 1 [],mv 0,ap 5 2 1 8 3 4]++sq 2 [mv 5])) .ret))
theorem V9:jT Tryz.prog 105 Sn 6 [.tmp 2]:=mf Tryz.func105 Tryz.ntmps105
def nG(l:fP):Option fP:=
 if(0+l.length)*8<=140737488355328 then
  some l
 else none
instance PI{l:fP}:gW (nG l) fun rr=>gN Tryz.prog 105 [.d (gE 1 iD l)] [] 0 fun xx ss=>xx=.own 1 3 (List.map iD rr)/\ss=[(3,.tok 2 1 rr.length)]:=⟨@fun rr h=>by
 delta nG at h;refine V9.jO (gC ?_);delta Sn;refine g_ ?_;exact mm⟩
def Sw:gH:=
 (.seq (.gD (sq 3 [bo 3 27 0]++sq 6 [.mv (.const (.slice none 0 0))])) (.seq (.gD (sq 7 [mv 1,mv 2,la 1 3,mv 1,mv 2,cf 106 [9,10,11],.slc (t0 7) 1 (some (t0 8)) (some (t0 12)) none,cf 105 [13]]++sq 6 [mv 14])) .ret))
theorem We:jT Tryz.prog 112 Sw 15 [.tmp 6]:=mf Tryz.func112 Tryz.ntmps112
def jX(sig:fP)(t:fP)(jV:Int):Option fP:=
 (nA sig t jV).bind fun r=>
 if 0<=jV/\jV<=r/\r<=(t.length:Int)then
  (nG ((t.take r.toNat).drop jV.toNat)).bind fun r_1=>
  some r_1
 else none
instance Qu{sig:fP}{t:fP}{jV:Int}:gW (jX sig t jV) fun rr=>iC Tryz.prog 112 [gQ sig,(gE 1 iD) t,iD jV] ((gE 1 iD) rr):=⟨@fun rr h=>by
 delta jX at h;refine We.iA (gC ?_);delta Sw;refine g_ ?_;refine rC h fun r hr h=>?_
 refine iU h fun hp h=>?_
 refine lM [] [(3,14)] h fun r_1 hr_1 h=>?_
 exact mm⟩
def Ty:gH:=
 (.seq (.gD (sq 1 [bo 1 47 0,.mv (.const .nilFunc)])) (.seq (.gD (sq 3 [.z_ 222 [] [(t0 1)]]++sq 2 [mv 3])) .ret))
theorem Xh:jT Tryz.prog 216 Ty 4 [.tmp 2]:=mf Tryz.func216 Tryz.ntmps216
def oK(s:fQ):Option fQ:=
 some s
instance HW{s:fQ}:gW (oK s) fun rr=>gN Tryz.prog 216 [.d (.agg [gE 1 (gE 1 iD) s])] [] 0 fun xx ss=>xx=.fn 222 [] [.ptr 1 0]/\ss=[(1,.obj 47 [.d (gE 1 (gE 1 iD) rr)])]:=⟨@fun rr h=>by
 delta oK at h;refine Xh.jO (gC ?_);delta Ty;refine g_ ?_;exact mm⟩
def TB:gH:=
 (.seq (.gD (sq 2 [bo 2 47 0]++sq 4 [.mv (.const (.slice none 0 0))])) (.seq (.seq (.gD (sq 5 [mv 1,fa 0 2,ld 6,ln 7,bn .geq 5 8,mv 9]++sg 10 false 11 [fa 0 2,ld 11,mv 1,ix 1 12 13,ld 14,ln 15,bi .eql 16 0]++sq 18 [po 10 17])) (.cond (t0 18) (.seq (.gD (sq 4 [.mv (.const (.slice none 0 0))])) .ret) .skip)) (.seq (.gD (sq 19 [fa 0 2,ld 19,mv 1,ix 1 20 21,ld 22]++sq 4 [mv 23])) .ret)))
theorem Xk:jT Tryz.prog 223 TB 24 [.tmp 4]:=mf Tryz.func223 Tryz.ntmps223
def nM(s:fQ)(i:Int):Option fP:=
 if(decide ((s.length:Int)<=i))=true then
  some []
 else
  if 0<=i/\i<(s.length:Int)then
   if(((s.getD i.toNat default).length:Int)==0)=true then
    some []
   else
    if 0<=i/\i<(s.length:Int)then
     if 0<(s.getD i.toNat default).length then
      some (s.getD i.toNat default)
     else none
    else none
  else none
instance Ij{s:fQ}{i:Int}:gW (nM s i) fun rr=>iC Tryz.prog 223 [jJ s,iD i] ((ue 1 iD) rr):=⟨@fun rr h=>by
 delta nM at h;refine Xk.iA (gC ?_);delta TB;refine g_ ?_;refine iF h fun hc h=>?_
 refine iU h fun hp h=>?_
 refine iF h fun hc h=>?_
 refine iU h fun hp h=>?_
 refine iU h fun hp h=>?_
 cases h;exact(CO gB).2 trivial⟩
def TA:gH:=
 (.seq (.gD (sq 3 [.mv (.const (.slice none 0 0))])) (.seq (.seq (.gD (sq 4 [mv 0,bi .geq 4 0])) (.cond (t0 5) (.seq (.gD (sq 3 [.mv (.const (.slice none 0 0))])) .ret) .skip)) (.seq (.gD (sq 6 [la 1 1,mv 0,.bin .sub (i0 (-1)) (t0 7),cf 223 [6,8]]++sq 3 [mv 9])) .ret)))
theorem Xj:jT Tryz.prog 222 TA 10 [.tmp 3]:=mf Tryz.func222 Tryz.ntmps222
def oa(n:Int)(o0:fQ):Option fP:=
 if(decide (0<=n))=true then
  some []
 else
  (nM o0 (IntKind.i64.wrap ((-1)-n))).bind fun r=>
  some r
instance F4{n:Int}{o0:fQ}:gW (oa n o0) fun rr=>gN Tryz.prog 222 [.d (iD n),.ptr 0 0] [(0,.obj 47 [.d (gE 1 (gE 1 iD) o0)])] 1 fun xx ss=>xx=.d (ue 1 iD rr)/\ss=[(0,.obj 47 [.d (gE 1 (gE 1 iD) o0)])]:=⟨@fun rr h=>by
 delta oa at h;refine Xj.jO (gC ?_);delta TA;refine g_ ?_;exact mm⟩
def Tu:gH:=
 (.seq (.gD (sq 2 [bo 2 47 0]++sq 4 [.mv (.const (.slice none 0 0)),mb false])) (.seq (.gD (sq 11 [la 1 2,cf 216 [11]]++sq 6 [mv 12])) (.seq (.gD (sq 13 [mv 1,ln 13,.za 15 2 1 8 [.lit (.int .i64 0)] true (i0 0) (t0 14)]++sq 7 [mv 15])) (.seq (.seq (.gD (sq 16 [mv 1,ln 16,mi 0])) (.block 0 (.loop (.seq (.gD (sq 19 [bn .lss 18 17])) (.seq (.cond (t0 19) .skip (.exit 0)) (.seq (.block 1 (.seq (.gD (sq 20 [ix 1 16 18,ld 20]++sq 9 [mv 21])) (.seq (.seq (.gD (sq 22 [mv 6,mv 9,.ug (t0 22) [(t0 23)]]++sq 10 [mv 24])) (.seq (.gD (sq 25 [mv 10,.xC false (t0 25)])) (.cond (t0 26) (.gD (sq 27 [mv 7,mv 9,.lQ 29 2 1 [(t0 28)],ap 30 2 1 8 27 29]++sq 7 [mv 30])) (.gD (sq 31 [mv 7,mv 10,ap 33 2 1 8 31 32]++sq 7 [mv 33]))))) (.seq (.gD (sq 34 [mv 7,ln 34,bi .gtr 35 60])) (.cond (t0 36) (.seq (.gD (sq 4 [.mv (.const (.slice none 0 0)),mb false])) .ret) .skip))))) (.gD (sq 37 [bi .add 18 1]++sq 18 [mv 37])))))))) (.seq (.gD (sq 38 [mv 7]++sq 4 [mv 38,mb true])) .ret)))))
theorem Xd:jT Tryz.prog 196 Tu 39 [.tmp 4,.tmp 5]:=mf Tryz.func196 Tryz.ntmps196
def vU(t:fP)(r:fQ):gp->Option (gp⊕gx)
 |(out,v18)=>
  if(decide (v18<(t.length:Int)))=true then
   if 0<=v18/\v18<(t.length:Int)then
    (oa (t.getD v18.toNat default) r).bind fun r_1=>
    if r_1.isEmpty=true then
     if(out.length+1)*8<=140737488355328 then
      if(decide (60<((out++[(t.getD v18.toNat default)]).length:Int)))=true then
       Option.map Sum.inr (
        some ([],false))
      else
       some (.inl ((out++[(t.getD v18.toNat default)]),(IntKind.i64.wrap (v18+1))))
     else none
    else
     if(out.length+r_1.length)*8<=140737488355328 then
      if(decide (60<((out++r_1).length:Int)))=true then
       Option.map Sum.inr (
        some ([],false))
      else
       some (.inl ((out++r_1),(IntKind.i64.wrap (v18+1))))
     else none
   else none
  else
   Option.map Sum.inr (
    some (out,true))
def qx(s:fQ)(t:fP):Option gx:=
 (oK s).bind fun r=>
 if 0<=(t.length:Int)/\8*(t.length:Int)<=281474976710656 then
  gK (vU t r) ([],0)
 else none
instance R2{s:fQ}{t:fP}:gW (qx s t) fun rr=>pn Tryz.prog 196 [jJ s,(gE 1 iD) t] [(gE 1 iD) rr.1,bD rr.2]:=⟨@fun rr h=>by
 delta qx at h;refine Xd.qn (gC ?_);delta Tu;refine g_ ?_;refine lM [] [(1,12)] h fun r hr h=>?_
 refine iU h fun hp h=>?_
 refine jk h [4,5,7,9,10,18,19,20,21,22,23,24,25,26,27,28,29,30,31,32,33,34,35,36,37] (fun pp=>[(7,.own 1 15 (List.map iD pp.1)),(18,.d (iD pp.2))]) (fun pp=>[(2,.obj 47 [.d (gE 1 (gE 1 iD) s)]),(12,.obj 47 [.d (gE 1 (gE 1 iD) r)]),(15,.tok 2 1 pp.1.length)]) ?_;rintro⟨out,v18⟩ t1 h hb1;unfold vU at h;try dsimp only at h
 refine gC (g_ ?_);refine iT h fun hc h=>?_
 refine iU h fun hp h=>?_
 refine tW (by kernel_rfl) ?_;refine lM [(0,12)] [] h fun r_1 hr_1 h=>?_
 refine iT h fun hc h=>?_
 refine iU h fun hp h=>?_
 refine iF h fun hc h=>?_
 cases h;refine⟨_,rfl,?_⟩;refine(gT.drop 29 gB).trans ?_;exact wk⟩
def XO:gH:=
 (.seq (.gD (sq 2 [bo 2 47 0]++sq 4 [.mv (.const (.slice none 0 0))])) (.seq (.seq (.gD (sq 5 [mv 1,fa 0 2,ld 6,ln 7,bn .lss 5 8,mv 9]++sg 10 true 11 [fa 0 2,ld 11,mv 1,ix 1 12 13,ld 14,ln 15,bi .gtr 16 0]++sq 18 [pa 10 17])) (.cond (t0 18) (.seq (.gD (sq 19 [fa 0 2,ld 19,mv 1,ix 1 20 21,ld 22,cf 105 [23]]++sq 4 [mv 24])) .ret) .skip)) (.seq (.gD (sq 25 [mv 1,.bin .sub (i0 (-1)) (t0 25),.lQ 27 2 1 [(t0 26)]]++sq 4 [mv 27])) .ret)))
theorem Zg:jT Tryz.prog 59 XO 28 [.tmp 4]:=mf Tryz.func59 Tryz.ntmps59
def pe(s:fQ)(i:Int):Option fP:=
 if(decide (i<(s.length:Int)))=true then
  if 0<=i/\i<(s.length:Int)then
   if(decide (0<((s.getD i.toNat default).length:Int)))=true then
    if 0<=i/\i<(s.length:Int)then
     (nG (s.getD i.toNat default)).bind fun r=>
     some r
    else none
   else
    some [(IntKind.i64.wrap ((-1)-i))]
  else none
 else
  some [(IntKind.i64.wrap ((-1)-i))]
instance M8{s:fQ}{i:Int}:gW (pe s i) fun rr=>iC Tryz.prog 59 [jJ s,iD i] ((gE 1 iD) rr):=⟨@fun rr h=>by
 delta pe at h;refine Zg.iA (gC ?_);delta XO;refine g_ ?_;refine iT h fun hc h=>?_
 refine iU h fun hp h=>?_
 refine iT h fun hc h=>?_
 refine iU h fun hp h=>?_
 refine lM [] [(3,24)] h fun r hr h=>?_
 exact mm⟩
def XQ:gH:=
 (.seq (.gD (sq 2 [bo 2 47 0]++sq 4 [.mv (.const (.slice none 0 0)),mb false])) (.seq (.gD (sq 8 [.lQ 8 2 1 []]++sq 6 [mv 8])) (.seq (.seq (.gD (sq 7 [mi 0])) (.block 0 (.loop (.seq (.seq (.gD (sq 9 [mv 7,mv 1,ln 10,bn .lss 9 11])) (.cond (t0 12) .skip (.exit 0))) (.seq (.block 1 (.seq (.seq (.gD (sq 15 [mv 1,mv 7,ix 1 15 16,ld 17,bi .lss 18 0])) (.cond (t0 19) (.draw (sq 20 [mv 6,la 1 2,mv 1,mv 7,ix 1 22 23,ld 24,.bin .sub (i0 (-1)) (t0 25),cf 59 [21,26],ap 28 2 1 8 20 27]++sq 6 [mv 28]) [[],[],[],[],[2,3],[4],[5],[1,6],[0,7,7],[8,8,0,1,2,3,4,5,6,7,8]]) (.gD (sq 29 [mv 6,mv 1,mv 7,ix 1 30 31,ld 32,.lQ 34 2 1 [(t0 33)],ap 35 2 1 8 29 34]++sq 6 [mv 35])))) (.seq (.gD (sq 36 [mv 6,ln 36,bi .gtr 37 60])) (.cond (t0 38) (.seq (.gD (sq 39 [.lQ 39 2 1 []]++sq 4 [mv 39,mb false])) .ret) .skip)))) (.gD (sq 13 [mv 7,bi .add 13 1]++sq 7 [mv 14]))))))) (.seq (.gD (sq 40 [mv 6]++sq 4 [mv 40,mb true])) .ret))))
theorem Zi:jT Tryz.prog 61 XQ 41 [.tmp 4,.tmp 5]:=mf Tryz.func61 Tryz.ntmps61
def sJ(s:fQ)(t:fP):gp->Option (gp⊕gx)
 |(out,i)=>
  if(decide (i<(t.length:Int)))=true then
   if 0<=i/\i<(t.length:Int)then
    if(decide ((t.getD i.toNat default)<0))=true then
     if 0<=i/\i<(t.length:Int)then
      (pe s (IntKind.i64.wrap ((-1)-(t.getD i.toNat default)))).bind fun r=>
      if(out.length+r.length)*8<=140737488355328 then
       if(decide (60<((out++r).length:Int)))=true then
        Option.map Sum.inr (
         some ([],false))
       else
        some (.inl ((out++r),(IntKind.i64.wrap (i+1))))
      else none
     else none
    else
     if 0<=i/\i<(t.length:Int)then
      if(out.length+1)*8<=140737488355328 then
       if(decide (60<((out++[(t.getD i.toNat default)]).length:Int)))=true then
        Option.map Sum.inr (
         some ([],false))
       else
        some (.inl ((out++[(t.getD i.toNat default)]),(IntKind.i64.wrap (i+1))))
      else none
     else none
   else none
  else
   Option.map Sum.inr (
    some (out,true))
def lC(s:fQ)(t:fP):Option gx:=
 gK (sJ s t) ([],0)
instance Mt{s:fQ}{t:fP}:gW (lC s t) fun rr=>pn Tryz.prog 61 [jJ s,(gE 1 iD) t] [(gE 1 iD) rr.1,bD rr.2]:=⟨@fun rr h=>by
 delta lC at h;refine Zi.qn (gC ?_);delta XQ;refine g_ ?_;refine jk h [4,5,6,7,9,10,11,12,13,14,15,16,17,18,19,20,21,22,23,24,25,26,27,28,29,30,31,32,33,34,35,36,37,38,39] (fun pp=>[(6,.own 1 8 (List.map iD pp.1)),(7,.d (iD pp.2))]) (fun pp=>[(2,.obj 47 [.d (gE 1 (gE 1 iD) s)]),(8,.tok 2 1 pp.1.length)]) ?_;rintro⟨out,i⟩ t1 h hb1;unfold sJ at h;try dsimp only at h
 refine gC (g_ ?_);refine iT h fun hc h=>?_
 refine iU h fun hp h=>?_
 refine iF h fun hc h=>?_
 refine iU h fun hp h=>?_
 refine iU h fun hp h=>?_
 refine iF h fun hc h=>?_
 cases h;refine⟨_,rfl,?_⟩;refine(gT.drop 34 gB).trans ?_;exact wk⟩
def om(n:Int):Option fP:=if 0<=n/\n*8<=140737488355328 then some []else none
instance Ef{n:Int}:gW (om n) fun rr=>gN Tryz.prog 200 [.d (.sl 0 (some true) []),.d (iD n)] [] 0 fun xx ss=>xx=.own 1 0 (List.map iD rr)/\ss=[(0,.tok 2 1 rr.length)]:=⟨fun h=>by
 obtain⟨hp,h⟩:=rf h;cases h;exact G5 (i0:=Tryz.t2) (z:=_) Tryz.QO (by kernel_rfl) rfl (by decide) (by decide) (by decide) (by decide) hp.1 hp.2⟩
def Te:gH:=
 (.seq (.gD (sq 2 [.mv (.const (.slice none 0 0))])) (.seq (.gD (sq 3 [mi 0])) (.seq (.seq (.gD (sq 9 [mv 0,ln 9,mi 0])) (.block 0 (.loop (.seq (.gD (sq 12 [bn .lss 11 10])) (.seq (.cond (t0 12) .skip (.exit 0)) (.seq (.block 1 (.seq (.gD (sq 13 [ix 1 9 11,ld 13]++sq 5 [mv 14])) (.seq (.gD (sq 15 [mv 3,mv 5,ln 16,bn .add 15 17]++sq 3 [mv 18])) (.seq (.gD (sq 19 [mv 3,bi .lss 19 0])) (.cond (t0 20) (.gD (sq 21 [.Ex 9 (.const (.string {data:=#[108,101,110,32,111,117,116,32,111,102,32,114,97,110,103,101]}))]++s0 (.PU (t0 21)))) .skip))))) (.gD (sq 22 [bi .add 11 1]++sq 11 [mv 22])))))))) (.seq (.gD (sq 23 [mv 3,.iw 200 [(.const (.slice none 0 0)),(t0 23)]]++sq 6 [mv 24])) (.seq (.seq (.gD (sq 25 [mv 0,ln 25,mi 0])) (.block 2 (.loop (.seq (.gD (sq 28 [bn .lss 27 26])) (.seq (.cond (t0 28) .skip (.exit 2)) (.seq (.block 3 (.seq (.gD (sq 29 [ix 1 25 27,ld 29]++sq 8 [mv 30])) (.gD (sq 31 [mv 6,mv 8,ap 33 2 1 8 31 32]++sq 6 [mv 33])))) (.gD (sq 34 [bi .add 27 1]++sq 27 [mv 34])))))))) (.seq (.gD (sq 35 [mv 6]++sq 2 [mv 35])) .ret))))))
theorem WY:jT Tryz.prog 169 Te 36 [.tmp 2]:=mf Tryz.func169 Tryz.ntmps169
def mG(slices:fQ):gp->Option (gp⊕fP)
 |(newslice,v27)=>
  if(decide (v27<(slices.length:Int)))=true then
   if 0<=v27/\v27<(slices.length:Int)then
    if(newslice.length+(slices.getD v27.toNat default).length)*8<=140737488355328 then
     some (.inl ((newslice++(slices.getD v27.toNat default)),(IntKind.i64.wrap (v27+1))))
    else none
   else none
  else
   Option.map Sum.inr (
    some newslice)
def mF(slices:fQ):gr->Option (gr⊕fP)
 |(size,v11)=>
  if(decide (v11<(slices.length:Int)))=true then
   if 0<=v11/\v11<(slices.length:Int)then
    if(decide ((IntKind.i64.wrap (size+((slices.getD v11.toNat default).length:Int)))<0))=true then
     none
    else
     some (.inl ((IntKind.i64.wrap (size+((slices.getD v11.toNat default).length:Int))),(IntKind.i64.wrap (v11+1))))
   else none
  else
   Option.map Sum.inr (
    (om size).bind fun r=>
    gK (mG slices) (r,0))
def ic(slices:fQ):Option fP:=
 gK (mF slices) (0,0)
instance CI{slices:fQ}:gW (ic slices) fun rr=>gN Tryz.prog 169 [.d (gE 1 (gE 1 iD) slices)] [] 0 fun xx ss=>xx=.own 1 24 (List.map iD rr)/\ss=[(24,.tok 2 1 rr.length)]:=⟨@fun rr h=>by
 delta ic at h;refine WY.jO (gC ?_);delta Te;refine g_ ?_;refine jk h [3,5,11,12,13,14,15,16,17,18,19,20,21,22] (fun pp=>[(3,.d (iD pp.1)),(11,.d (iD pp.2))]) (fun pp=>[]) ?_;rintro⟨size,v11⟩ t1 h hb1;unfold mF at h;try dsimp only at h
 refine gC (g_ ?_);refine iF h fun hc h=>?_
 replace h:=gY h hb1;refine lM [] [(0,24)] h fun r hr h=>?_
 refine jk h [6,8,27,28,29,30,31,32,33,34] (fun pp=>[(6,.own 1 24 (List.map iD pp.1)),(27,.d (iD pp.2))]) (fun pp=>[(24,.tok 2 1 pp.1.length)]) ?_;rintro⟨newslice,v27⟩ t1 h hb1;unfold mG at h;try dsimp only at h
 refine gC (g_ ?_);exact mm⟩
def Tv:gH:=
 (.seq (.gD (sq 4 [bo 4 27 0]++sq 8 [.mv (.const (.slice none 0 0)),mb false])) (.seq (.draw (sq 11 [mv 1,mv 2,.slc (t0 11) 1 none (some (t0 12)) none,mv 3,mv 1,la 1 4,mv 1,mv 2,cf 90 [16,17,18],.slc (t0 15) 1 (some (t0 19)) none none,.lQ 21 22 1 [(t0 13),(t0 14),(t0 20)],cf 169 [21]]++sq 10 [mv 22]) [[],[],[0,1],[],[],[],[],[],[5,6,7],[4,8],[2,3,9],[10,8],[11,11,0,1,2,3,4,5,6,7,8,9,10,11]]) (.seq (.seq (.gD (sq 23 [mv 10,ln 23,bi .gtr 24 60])) (.cond (t0 25) (.seq (.gD (sq 8 [.mv (.const (.slice none 0 0)),mb false])) .ret) .skip)) (.seq (.gD (sq 26 [mv 10]++sq 8 [mv 26,mb true])) .ret))))
theorem Xe:jT Tryz.prog 197 Tv 27 [.tmp 8,.tmp 9]:=mf Tryz.func197 Tryz.ntmps197
def uo(sig:fP)(t:fP)(jV:Int)(u:fP):Option gx:=
 if 0<=jV/\jV<=(t.length:Int)then
  (ox sig t jV).bind fun r=>
  if 0<=r/\r<=(t.length:Int)then
   (ic [(t.take jV.toNat),u,(t.drop r.toNat)]).bind fun r_1=>
   if(decide (60<(r_1.length:Int)))=true then
    some ([],false)
   else
    some (r_1,true)
  else none
 else none
instance Ud{sig:fP}{t:fP}{jV:Int}{u:fP}:gW (uo sig t jV u) fun rr=>pn Tryz.prog 197 [gQ sig,(gE 1 iD) t,iD jV,(gE 1 iD) u] [(gE 1 iD) rr.1,bD rr.2]:=⟨@fun rr h=>by
 delta uo at h;refine Xe.qn (gC ?_);delta Tv;refine g_ ?_;refine iU h fun hp h=>?_
 refine dC h fun r hr h=>?_
 refine iU h fun hp h=>?_
 refine xN [] [(24,22)] h fun r_1 hr_1 h=>?_
 exact mm⟩
def S8:gH:=
 (.seq (.gD (sq 4 [bo 4 27 0]++sq 8 [.mv (.const (.slice none 0 0)),mb false])) (.seq (.gD (sq 11 [mv 1,mv 2,.slc (t0 11) 1 none (some (t0 12)) none,cf 105 [13],mv 3,ap 16 2 1 8 14 15]++sq 10 [mv 16])) (.seq (.gD (sq 17 [mv 10,mv 1,la 1 4,mv 1,mv 2,cf 106 [19,20,21],.slc (t0 18) 1 (some (t0 22)) none none,ap 24 2 1 8 17 23]++sq 10 [mv 24])) (.seq (.seq (.gD (sq 25 [mv 10,ln 25,bi .gtr 26 60])) (.cond (t0 27) (.seq (.gD (sq 28 [.lQ 28 2 1 []]++sq 8 [mv 28,mb false])) .ret) .skip)) (.seq (.gD (sq 29 [mv 10]++sq 8 [mv 29,mb true])) .ret)))))
theorem WR:jT Tryz.prog 161 S8 30 [.tmp 8,.tmp 9]:=mf Tryz.func161 Tryz.ntmps161
def oD(sig:fP)(t:fP)(jV:Int)(u:fP):Option gx:=
 if 0<=jV/\jV<=(t.length:Int)then
  (nG (t.take jV.toNat)).bind fun r=>
  if(r.length+u.length)*8<=140737488355328 then
   (nA sig t jV).bind fun r_1=>
   if 0<=r_1/\r_1<=(t.length:Int)then
    if((r++u).length+(t.drop r_1.toNat).length)*8<=140737488355328 then
     if(decide (60<(((r++u)++(t.drop r_1.toNat)).length:Int)))=true then
      some ([],false)
     else
      some (((r++u)++(t.drop r_1.toNat)),true)
    else none
   else none
  else none
 else none
instance Qv{sig:fP}{t:fP}{jV:Int}{u:fP}:gW (oD sig t jV u) fun rr=>pn Tryz.prog 161 [gQ sig,(gE 1 iD) t,iD jV,(gE 1 iD) u] [(gE 1 iD) rr.1,bD rr.2]:=⟨@fun rr h=>by
 delta oD at h;refine WR.qn (gC ?_);delta S8;refine g_ ?_;refine iU h fun hp h=>?_
 refine lM [] [(3,14)] h fun r hr h=>?_
 exact mm⟩
end Go.Proofs.YthdnkoejpdcnpaaGreat
