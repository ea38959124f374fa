/- A part of the proof about FnAcMatches (Lay, G0, C04, C24, G1, G2). -/
import Derived.Test.YthdnkoejpdcnpaaGreatMaa
import Derived.Test.YthdnkoejpdcnpaaGreatMac
import Derived.Shelf.Spec.SlicesGrow
import Derived.Test.YthdnkoejpdcnpaaGreatProg
import Derived.Shelf.Small.Bits
import Derived.Shelf.Strconv.Itoa0
import Derived.Ground.SlsfProg
import Derived.Shelf.SlSortCmp.Insertion
import Derived.Shelf.SlSortCmp.SiftDown1
import Derived.Shelf.SlSortCmp.HeapSort1
import Derived.Shelf.SlSortCmp.Insertion1
import Derived.Shelf.SlSortCmp.Median1
import Derived.Shelf.SlSortCmp.Pivot1
import Derived.Shelf.SlSortCmp.ReverseRange1
import Derived.Shelf.SlSortCmp.PartialInsertion1
import Derived.Shelf.SlSortCmp.PartitionEqual1
import Derived.Shelf.SlSortCmp.Partition1
import Derived.Shelf.SlSortCmp.Pdq1
import Derived.Shelf.SlSortCmp.Whole1
import Derived.Shelf.SlSortCmp.NoneTotal
import Derived.KernelRfl
set_option linter.all false
noncomputable section
namespace Go.Proofs
open Go.Shelf
def Tryz.EY:Go.Shelf.Ren:=⟨fun|4=>209|n=>n,fun|22=>45|25=>22|3=>3|4=>4|9=>9|20=>20|0=>0|n=>n,fun|n=>n⟩
theorem Tryz.Ol:Go.Proofs.Lays8.n4 Tryz.prog Tryz.EY:={
 mixed:=by kernel_rfl
 f4:=⟨Tryz.f209.name,by decide,Tryz.func209.trans (aN some (by kernel_rfl))⟩
 t0:=Tryz.underlying0
 a0:=Tryz.isAgg0
 z0:=Tryz.sizeOf0
 v0:=Tryz.zeroValue0
 t3:=Tryz.underlying3
 a3:=Tryz.isAgg3
 z3:=Tryz.sizeOf3
 v3:=Tryz.zeroValue3
 t4:=Tryz.underlying4
 a4:=Tryz.isAgg4
 z4:=Tryz.sizeOf4
 v4:=Tryz.zeroValue4
 t9:=Tryz.underlying9
 a9:=Tryz.isAgg9
 z9:=Tryz.sizeOf9
 v9:=Tryz.zeroValue9
 t20:=Tryz.underlying20
 a20:=Tryz.isAgg20
 z20:=Tryz.sizeOf20
 v20:=Tryz.zeroValue20
 t22:=Tryz.underlying45
 a22:=Tryz.isAgg45
 z22:=Tryz.sizeOf45
 v22:=Tryz.zeroValue45}
def Tryz.Ai:Go.Shelf.Ren:=⟨fun|6=>95|15=>153|14=>152|28=>191|29=>192|20=>183|21=>184|22=>185|23=>186|24=>187|25=>188|26=>189|27=>190|46=>210|47=>211|48=>212|49=>213|50=>214|57=>221|n=>n,fun|22=>100|24=>45|25=>117|3=>3|39=>168|0=>0|53=>199|55=>201|4=>4|46=>192|45=>191|50=>196|5=>5|9=>9|66=>213|70=>217|76=>224|77=>225|n=>n,fun|n=>n⟩
theorem Tryz.DG:Go.Proofs.SlLaysF.n6 Tryz.prog Tryz.Ai:={
 mixed:=by kernel_rfl
 f6:=⟨Tryz.f95.name,by decide,Tryz.func95.trans (aN some (by kernel_rfl))⟩
 f14:=⟨Tryz.f152.name,by decide,Tryz.func152.trans (aN some (by kernel_rfl))⟩
 f15:=Tryz.func153.trans (aN some (by kernel_rfl))
 f20:=⟨Tryz.f183.name,by decide,Tryz.func183.trans (aN some (by kernel_rfl))⟩
 f21:=⟨Tryz.f184.name,by decide,Tryz.func184.trans (aN some (by kernel_rfl))⟩
 f22:=⟨Tryz.f185.name,by decide,Tryz.func185.trans (aN some (by kernel_rfl))⟩
 f23:=⟨Tryz.f186.name,by decide,Tryz.func186.trans (aN some (by kernel_rfl))⟩
 f24:=⟨Tryz.f187.name,by decide,Tryz.func187.trans (aN some (by kernel_rfl))⟩
 f25:=⟨Tryz.f188.name,by decide,Tryz.func188.trans (aN some (by kernel_rfl))⟩
 f26:=⟨Tryz.f189.name,by decide,Tryz.func189.trans (aN some (by kernel_rfl))⟩
 f27:=⟨Tryz.f190.name,by decide,Tryz.func190.trans (aN some (by kernel_rfl))⟩
 f28:=Tryz.func191.trans (aN some (by kernel_rfl))
 f29:=Tryz.func192.trans (aN some (by kernel_rfl))
 f46:=⟨Tryz.f210.name,by decide,Tryz.func210.trans (aN some (by kernel_rfl))⟩
 f47:=Tryz.func211.trans (aN some (by kernel_rfl))
 f48:=Tryz.func212.trans (aN some (by kernel_rfl))
 f49:=⟨Tryz.f213.name,by decide,Tryz.func213.trans (aN some (by kernel_rfl))⟩
 f50:=⟨Tryz.f214.name,by decide,Tryz.func214.trans (aN some (by kernel_rfl))⟩
 f57:=⟨Tryz.f221.name,by decide,Tryz.func221.trans (aN some (by kernel_rfl))⟩
 t0:=Tryz.underlying0
 a0:=Tryz.isAgg0
 z0:=Tryz.sizeOf0
 v0:=Tryz.zeroValue0
 t3:=Tryz.underlying3
 a3:=Tryz.isAgg3
 z3:=Tryz.sizeOf3
 v3:=Tryz.zeroValue3
 t4:=Tryz.underlying4
 a4:=Tryz.isAgg4
 z4:=Tryz.sizeOf4
 v4:=Tryz.zeroValue4
 t5:=Tryz.underlying5
 a5:=Tryz.isAgg5
 z5:=Tryz.sizeOf5
 v5:=Tryz.zeroValue5
 t9:=Tryz.underlying9
 a9:=Tryz.isAgg9
 z9:=Tryz.sizeOf9
 v9:=Tryz.zeroValue9
 t22:=Tryz.underlying100
 a22:=Tryz.isAgg100
 z22:=Tryz.sizeOf100
 v22:=Tryz.zeroValue100
 a24:=Tryz.isAgg45
 z24:=Tryz.sizeOf45
 t25:=Tryz.underlying117
 a25:=Tryz.isAgg117
 z25:=Tryz.sizeOf117
 v25:=Tryz.zeroValue117
 t39:=Tryz.underlying168
 a39:=Tryz.isAgg168
 z39:=Tryz.sizeOf168
 v39:=Tryz.zeroValue168
 t45:=Tryz.underlying191
 a45:=Tryz.isAgg191
 z45:=Tryz.sizeOf191
 v45:=Tryz.zeroValue191
 t46:=Tryz.underlying192
 a46:=Tryz.isAgg192
 z46:=Tryz.sizeOf192
 v46:=Tryz.zeroValue192
 t50:=Tryz.underlying196
 a50:=Tryz.isAgg196
 z50:=Tryz.sizeOf196
 v50:=Tryz.zeroValue196
 t53:=Tryz.underlying199
 a53:=Tryz.isAgg199
 z53:=Tryz.sizeOf199
 v53:=Tryz.zeroValue199
 t55:=Tryz.underlying201
 a55:=Tryz.isAgg201
 z55:=Tryz.sizeOf201
 v55:=Tryz.zeroValue201
 t66:=Tryz.underlying213
 a66:=Tryz.isAgg213
 z66:=Tryz.sizeOf213
 v66:=Tryz.zeroValue213
 t70:=Tryz.underlying217
 a70:=Tryz.isAgg217
 z70:=Tryz.sizeOf217
 v70:=Tryz.zeroValue217
 t76:=Tryz.underlying224
 a76:=Tryz.isAgg224
 z76:=Tryz.sizeOf224
 v76:=Tryz.zeroValue224
 t77:=Tryz.underlying225
 a77:=Tryz.isAgg225
 z77:=Tryz.sizeOf225
 v77:=Tryz.zeroValue225}
def Tryz.zi:Go.Shelf.Ren:=⟨fun|6=>126|15=>153|14=>170|28=>191|29=>192|20=>201|21=>202|22=>203|23=>204|24=>205|25=>206|26=>207|27=>208|46=>218|47=>211|48=>212|49=>219|50=>220|57=>224|n=>n,fun|22=>45|24=>22|25=>116|3=>3|39=>168|0=>0|53=>199|55=>201|4=>4|46=>192|45=>191|50=>196|5=>5|9=>9|66=>213|70=>217|76=>224|77=>225|n=>n,fun|n=>n⟩
theorem Tryz.CC:Go.Proofs.SlLaysF.n6 Tryz.prog Tryz.zi:={
 mixed:=by kernel_rfl
 f6:=⟨Tryz.f126.name,by decide,Tryz.func126.trans (aN some (by kernel_rfl))⟩
 f14:=⟨Tryz.f170.name,by decide,Tryz.func170.trans (aN some (by kernel_rfl))⟩
 f15:=Tryz.func153.trans (aN some (by kernel_rfl))
 f20:=⟨Tryz.f201.name,by decide,Tryz.func201.trans (aN some (by kernel_rfl))⟩
 f21:=⟨Tryz.f202.name,by decide,Tryz.func202.trans (aN some (by kernel_rfl))⟩
 f22:=⟨Tryz.f203.name,by decide,Tryz.func203.trans (aN some (by kernel_rfl))⟩
 f23:=⟨Tryz.f204.name,by decide,Tryz.func204.trans (aN some (by kernel_rfl))⟩
 f24:=⟨Tryz.f205.name,by decide,Tryz.func205.trans (aN some (by kernel_rfl))⟩
 f25:=⟨Tryz.f206.name,by decide,Tryz.func206.trans (aN some (by kernel_rfl))⟩
 f26:=⟨Tryz.f207.name,by decide,Tryz.func207.trans (aN some (by kernel_rfl))⟩
 f27:=⟨Tryz.f208.name,by decide,Tryz.func208.trans (aN some (by kernel_rfl))⟩
 f28:=Tryz.func191.trans (aN some (by kernel_rfl))
 f29:=Tryz.func192.trans (aN some (by kernel_rfl))
 f46:=⟨Tryz.f218.name,by decide,Tryz.func218.trans (aN some (by kernel_rfl))⟩
 f47:=Tryz.func211.trans (aN some (by kernel_rfl))
 f48:=Tryz.func212.trans (aN some (by kernel_rfl))
 f49:=⟨Tryz.f219.name,by decide,Tryz.func219.trans (aN some (by kernel_rfl))⟩
 f50:=⟨Tryz.f220.name,by decide,Tryz.func220.trans (aN some (by kernel_rfl))⟩
 f57:=⟨Tryz.f224.name,by decide,Tryz.func224.trans (aN some (by kernel_rfl))⟩
 t0:=Tryz.underlying0
 a0:=Tryz.isAgg0
 z0:=Tryz.sizeOf0
 v0:=Tryz.zeroValue0
 t3:=Tryz.underlying3
 a3:=Tryz.isAgg3
 z3:=Tryz.sizeOf3
 v3:=Tryz.zeroValue3
 t4:=Tryz.underlying4
 a4:=Tryz.isAgg4
 z4:=Tryz.sizeOf4
 v4:=Tryz.zeroValue4
 t5:=Tryz.underlying5
 a5:=Tryz.isAgg5
 z5:=Tryz.sizeOf5
 v5:=Tryz.zeroValue5
 t9:=Tryz.underlying9
 a9:=Tryz.isAgg9
 z9:=Tryz.sizeOf9
 v9:=Tryz.zeroValue9
 t22:=Tryz.underlying45
 a22:=Tryz.isAgg45
 z22:=Tryz.sizeOf45
 v22:=Tryz.zeroValue45
 a24:=Tryz.isAgg22
 z24:=Tryz.sizeOf22
 t25:=Tryz.underlying116
 a25:=Tryz.isAgg116
 z25:=Tryz.sizeOf116
 v25:=Tryz.zeroValue116
 t39:=Tryz.underlying168
 a39:=Tryz.isAgg168
 z39:=Tryz.sizeOf168
 v39:=Tryz.zeroValue168
 t45:=Tryz.underlying191
 a45:=Tryz.isAgg191
 z45:=Tryz.sizeOf191
 v45:=Tryz.zeroValue191
 t46:=Tryz.underlying192
 a46:=Tryz.isAgg192
 z46:=Tryz.sizeOf192
 v46:=Tryz.zeroValue192
 t50:=Tryz.underlying196
 a50:=Tryz.isAgg196
 z50:=Tryz.sizeOf196
 v50:=Tryz.zeroValue196
 t53:=Tryz.underlying199
 a53:=Tryz.isAgg199
 z53:=Tryz.sizeOf199
 v53:=Tryz.zeroValue199
 t55:=Tryz.underlying201
 a55:=Tryz.isAgg201
 z55:=Tryz.sizeOf201
 v55:=Tryz.zeroValue201
 t66:=Tryz.underlying213
 a66:=Tryz.isAgg213
 z66:=Tryz.sizeOf213
 v66:=Tryz.zeroValue213
 t70:=Tryz.underlying217
 a70:=Tryz.isAgg217
 z70:=Tryz.sizeOf217
 v70:=Tryz.zeroValue217
 t76:=Tryz.underlying224
 a76:=Tryz.isAgg224
 z76:=Tryz.sizeOf224
 v76:=Tryz.zeroValue224
 t77:=Tryz.underlying225
 a77:=Tryz.isAgg225
 z77:=Tryz.sizeOf225
 v77:=Tryz.zeroValue225}
open Go.RowKit Go.Lib Go.Sort in
theorem Tryz.x_{α:Type}[Inhabited α](enc:α->Value)(h1:OneCell enc)(cf:α->α->Int)(hO:SWO (ltOf cf))(g:Nat)(cb:Array Value)(blk off cap:Nat)(d:Array α)(w:World)(eg:∀args w,(callFunc g args).run Tryz.prog w=.ok (.enter g args) w)(hcmp:CmpLays1 Tryz.prog g cb enc cf blk off d.size w)(hH:Holds enc w blk off d)(hblk:blk<w.heap.size)(hsz:d.size<4611686018427387904):
 Calls Tryz.prog 95 #[.slice (some ⟨blk,off,none⟩) d.size cap,.func (.func g) #[] cb] w fun e w'=>
  e=.returned (.tuple #[])/\∃d' n os,PermIn 0 d.size d d'/\SortedIn (ltOf cf) 0 d.size d'/\w'=sortWorld enc w blk off n d' os:=Any.slices_SortFunc Tryz.DG enc h1 cf hO g cb blk off cap d w eg hcmp hH hblk hsz
open Go.RowKit Go.Lib Go.Sort in
theorem Tryz.xy{α:Type}[Inhabited α](enc:α->Value)(h1:OneCell enc)(cf:α->α->Int)(hO:SWO (ltOf cf))(g:Nat)(cb:Array Value)(blk off cap:Nat)(d:Array α)(w:World)(eg:∀args w,(callFunc g args).run Tryz.prog w=.ok (.enter g args) w)(hcmp:CmpLays1 Tryz.prog g cb enc cf blk off d.size w)(hH:Holds enc w blk off d)(hblk:blk<w.heap.size)(hsz:d.size<4611686018427387904):
 Calls Tryz.prog 126 #[.slice (some ⟨blk,off,none⟩) d.size cap,.func (.func g) #[] cb] w fun e w'=>
  e=.returned (.tuple #[])/\∃d' n os,PermIn 0 d.size d d'/\SortedIn (ltOf cf) 0 d.size d'/\w'=sortWorld enc w blk off n d' os:=Any.slices_SortFunc Tryz.CC enc h1 cf hO g cb blk off cap d w eg hcmp hH hblk hsz
def Tryz.zh:Go.Shelf.Ren:=⟨fun|6=>95|15=>153|14=>152|28=>191|29=>192|20=>183|21=>184|22=>185|23=>186|24=>187|25=>188|26=>189|27=>190|46=>210|47=>211|48=>212|49=>213|50=>214|57=>221|n=>n,fun|22=>100|24=>45|25=>117|3=>3|39=>168|0=>0|53=>199|55=>201|4=>4|46=>192|45=>191|50=>196|5=>5|9=>9|66=>213|70=>217|76=>224|77=>225|n=>n,fun|n=>n⟩
theorem Tryz.CB:Go.Proofs.SlLaysF0.n6 Tryz.prog Tryz.zh:={
 mixed:=by kernel_rfl
 f6:=⟨Tryz.f95.name,by decide,Tryz.func95.trans (aN some (by kernel_rfl))⟩
 f14:=⟨Tryz.f152.name,by decide,Tryz.func152.trans (aN some (by kernel_rfl))⟩
 f15:=Tryz.func153.trans (aN some (by kernel_rfl))
 f20:=⟨Tryz.f183.name,by decide,Tryz.func183.trans (aN some (by kernel_rfl))⟩
 f21:=⟨Tryz.f184.name,by decide,Tryz.func184.trans (aN some (by kernel_rfl))⟩
 f22:=⟨Tryz.f185.name,by decide,Tryz.func185.trans (aN some (by kernel_rfl))⟩
 f23:=⟨Tryz.f186.name,by decide,Tryz.func186.trans (aN some (by kernel_rfl))⟩
 f24:=⟨Tryz.f187.name,by decide,Tryz.func187.trans (aN some (by kernel_rfl))⟩
 f25:=⟨Tryz.f188.name,by decide,Tryz.func188.trans (aN some (by kernel_rfl))⟩
 f26:=⟨Tryz.f189.name,by decide,Tryz.func189.trans (aN some (by kernel_rfl))⟩
 f27:=⟨Tryz.f190.name,by decide,Tryz.func190.trans (aN some (by kernel_rfl))⟩
 f28:=Tryz.func191.trans (aN some (by kernel_rfl))
 f29:=Tryz.func192.trans (aN some (by kernel_rfl))
 f46:=⟨Tryz.f210.name,by decide,Tryz.func210.trans (aN some (by kernel_rfl))⟩
 f47:=Tryz.func211.trans (aN some (by kernel_rfl))
 f48:=Tryz.func212.trans (aN some (by kernel_rfl))
 f49:=⟨Tryz.f213.name,by decide,Tryz.func213.trans (aN some (by kernel_rfl))⟩
 f50:=⟨Tryz.f214.name,by decide,Tryz.func214.trans (aN some (by kernel_rfl))⟩
 f57:=⟨Tryz.f221.name,by decide,Tryz.func221.trans (aN some (by kernel_rfl))⟩
 t0:=Tryz.underlying0
 a0:=Tryz.isAgg0
 z0:=Tryz.sizeOf0
 v0:=Tryz.zeroValue0
 t3:=Tryz.underlying3
 a3:=Tryz.isAgg3
 z3:=Tryz.sizeOf3
 v3:=Tryz.zeroValue3
 t4:=Tryz.underlying4
 a4:=Tryz.isAgg4
 z4:=Tryz.sizeOf4
 v4:=Tryz.zeroValue4
 t5:=Tryz.underlying5
 a5:=Tryz.isAgg5
 z5:=Tryz.sizeOf5
 v5:=Tryz.zeroValue5
 t9:=Tryz.underlying9
 a9:=Tryz.isAgg9
 z9:=Tryz.sizeOf9
 v9:=Tryz.zeroValue9
 t22:=Tryz.underlying100
 a22:=Tryz.isAgg100
 z22:=Tryz.sizeOf100
 v22:=Tryz.zeroValue100
 t25:=Tryz.underlying117
 a25:=Tryz.isAgg117
 z25:=Tryz.sizeOf117
 v25:=Tryz.zeroValue117
 t39:=Tryz.underlying168
 a39:=Tryz.isAgg168
 z39:=Tryz.sizeOf168
 v39:=Tryz.zeroValue168
 t45:=Tryz.underlying191
 a45:=Tryz.isAgg191
 z45:=Tryz.sizeOf191
 v45:=Tryz.zeroValue191
 t46:=Tryz.underlying192
 a46:=Tryz.isAgg192
 z46:=Tryz.sizeOf192
 v46:=Tryz.zeroValue192
 t50:=Tryz.underlying196
 a50:=Tryz.isAgg196
 z50:=Tryz.sizeOf196
 v50:=Tryz.zeroValue196
 t53:=Tryz.underlying199
 a53:=Tryz.isAgg199
 z53:=Tryz.sizeOf199
 v53:=Tryz.zeroValue199
 t55:=Tryz.underlying201
 a55:=Tryz.isAgg201
 z55:=Tryz.sizeOf201
 v55:=Tryz.zeroValue201
 t66:=Tryz.underlying213
 a66:=Tryz.isAgg213
 z66:=Tryz.sizeOf213
 v66:=Tryz.zeroValue213
 t70:=Tryz.underlying217
 a70:=Tryz.isAgg217
 z70:=Tryz.sizeOf217
 v70:=Tryz.zeroValue217
 t76:=Tryz.underlying224
 a76:=Tryz.isAgg224
 z76:=Tryz.sizeOf224
 v76:=Tryz.zeroValue224
 t77:=Tryz.underlying225
 a77:=Tryz.isAgg225
 z77:=Tryz.sizeOf225
 v77:=Tryz.zeroValue225}
open Go.RowKit Go.Lib Go.Sort in
theorem Tryz.vj{α:Type}[Inhabited α](p:Option Addr)(cap:Nat)(fv:Value)(w:World):
 Calls Tryz.prog 95 #[.slice p 0 cap,fv] w fun e w'=>e=.returned (.tuple #[])/\w'=w:=AnyF.slices_SortFunc_none Tryz.CB p cap fv w
def Tryz.yw:Go.Shelf.Ren:=⟨fun|6=>126|15=>153|14=>170|28=>191|29=>192|20=>201|21=>202|22=>203|23=>204|24=>205|25=>206|26=>207|27=>208|46=>218|47=>211|48=>212|49=>219|50=>220|57=>224|n=>n,fun|22=>45|24=>22|25=>116|3=>3|39=>168|0=>0|53=>199|55=>201|4=>4|46=>192|45=>191|50=>196|5=>5|9=>9|66=>213|70=>217|76=>224|77=>225|n=>n,fun|n=>n⟩
theorem Tryz.BO:Go.Proofs.SlLaysF0.n6 Tryz.prog Tryz.yw:={
 mixed:=by kernel_rfl
 f6:=⟨Tryz.f126.name,by decide,Tryz.func126.trans (aN some (by kernel_rfl))⟩
 f14:=⟨Tryz.f170.name,by decide,Tryz.func170.trans (aN some (by kernel_rfl))⟩
 f15:=Tryz.func153.trans (aN some (by kernel_rfl))
 f20:=⟨Tryz.f201.name,by decide,Tryz.func201.trans (aN some (by kernel_rfl))⟩
 f21:=⟨Tryz.f202.name,by decide,Tryz.func202.trans (aN some (by kernel_rfl))⟩
 f22:=⟨Tryz.f203.name,by decide,Tryz.func203.trans (aN some (by kernel_rfl))⟩
 f23:=⟨Tryz.f204.name,by decide,Tryz.func204.trans (aN some (by kernel_rfl))⟩
 f24:=⟨Tryz.f205.name,by decide,Tryz.func205.trans (aN some (by kernel_rfl))⟩
 f25:=⟨Tryz.f206.name,by decide,Tryz.func206.trans (aN some (by kernel_rfl))⟩
 f26:=⟨Tryz.f207.name,by decide,Tryz.func207.trans (aN some (by kernel_rfl))⟩
 f27:=⟨Tryz.f208.name,by decide,Tryz.func208.trans (aN some (by kernel_rfl))⟩
 f28:=Tryz.func191.trans (aN some (by kernel_rfl))
 f29:=Tryz.func192.trans (aN some (by kernel_rfl))
 f46:=⟨Tryz.f218.name,by decide,Tryz.func218.trans (aN some (by kernel_rfl))⟩
 f47:=Tryz.func211.trans (aN some (by kernel_rfl))
 f48:=Tryz.func212.trans (aN some (by kernel_rfl))
 f49:=⟨Tryz.f219.name,by decide,Tryz.func219.trans (aN some (by kernel_rfl))⟩
 f50:=⟨Tryz.f220.name,by decide,Tryz.func220.trans (aN some (by kernel_rfl))⟩
 f57:=⟨Tryz.f224.name,by decide,Tryz.func224.trans (aN some (by kernel_rfl))⟩
 t0:=Tryz.underlying0
 a0:=Tryz.isAgg0
 z0:=Tryz.sizeOf0
 v0:=Tryz.zeroValue0
 t3:=Tryz.underlying3
 a3:=Tryz.isAgg3
 z3:=Tryz.sizeOf3
 v3:=Tryz.zeroValue3
 t4:=Tryz.underlying4
 a4:=Tryz.isAgg4
 z4:=Tryz.sizeOf4
 v4:=Tryz.zeroValue4
 t5:=Tryz.underlying5
 a5:=Tryz.isAgg5
 z5:=Tryz.sizeOf5
 v5:=Tryz.zeroValue5
 t9:=Tryz.underlying9
 a9:=Tryz.isAgg9
 z9:=Tryz.sizeOf9
 v9:=Tryz.zeroValue9
 t22:=Tryz.underlying45
 a22:=Tryz.isAgg45
 z22:=Tryz.sizeOf45
 v22:=Tryz.zeroValue45
 t25:=Tryz.underlying116
 a25:=Tryz.isAgg116
 z25:=Tryz.sizeOf116
 v25:=Tryz.zeroValue116
 t39:=Tryz.underlying168
 a39:=Tryz.isAgg168
 z39:=Tryz.sizeOf168
 v39:=Tryz.zeroValue168
 t45:=Tryz.underlying191
 a45:=Tryz.isAgg191
 z45:=Tryz.sizeOf191
 v45:=Tryz.zeroValue191
 t46:=Tryz.underlying192
 a46:=Tryz.isAgg192
 z46:=Tryz.sizeOf192
 v46:=Tryz.zeroValue192
 t50:=Tryz.underlying196
 a50:=Tryz.isAgg196
 z50:=Tryz.sizeOf196
 v50:=Tryz.zeroValue196
 t53:=Tryz.underlying199
 a53:=Tryz.isAgg199
 z53:=Tryz.sizeOf199
 v53:=Tryz.zeroValue199
 t55:=Tryz.underlying201
 a55:=Tryz.isAgg201
 z55:=Tryz.sizeOf201
 v55:=Tryz.zeroValue201
 t66:=Tryz.underlying213
 a66:=Tryz.isAgg213
 z66:=Tryz.sizeOf213
 v66:=Tryz.zeroValue213
 t70:=Tryz.underlying217
 a70:=Tryz.isAgg217
 z70:=Tryz.sizeOf217
 v70:=Tryz.zeroValue217
 t76:=Tryz.underlying224
 a76:=Tryz.isAgg224
 z76:=Tryz.sizeOf224
 v76:=Tryz.zeroValue224
 t77:=Tryz.underlying225
 a77:=Tryz.isAgg225
 z77:=Tryz.sizeOf225
 v77:=Tryz.zeroValue225}
open Go.RowKit Go.Lib Go.Sort in
theorem Tryz.uI{α:Type}[Inhabited α](p:Option Addr)(cap:Nat)(fv:Value)(w:World):
 Calls Tryz.prog 126 #[.slice p 0 cap,fv] w fun e w'=>e=.returned (.tuple #[])/\w'=w:=AnyF.slices_SortFunc_none Tryz.BO p cap fv w
end Go.Proofs
namespace Go.Proofs.YthdnkoejpdcnpaaGreat
open Go kJ
theorem DI:(Tryz.prog.follows .mixedOrders=true)=True:=eq_true (by kernel_rfl)
attribute [go_sem] DI
instance:Inhabited ByteArray:=⟨ByteArray.empty⟩
end Go.Proofs.YthdnkoejpdcnpaaGreat
namespace Go.Proofs.YthdnkoejpdcnpaaGreat
theorem S8:((4:Nat):Int)=4:=rfl
attribute [go_sem] S8
theorem Ro:((24:Nat):Int)=24:=rfl
attribute [go_sem] Ro
end Go.Proofs.YthdnkoejpdcnpaaGreat
namespace Go.Proofs.YthdnkoejpdcnpaaGreat
open Go kJ
attribute [local irreducible] sG ud tP lp kI oZ jk ya yG wF yF wv rj kR lN ym gV ki
set_option maxHeartbeats 4000000
set_option maxRecDepth 4000
def gE(x:fN):D:=.agg [(gu 1 iD) x]
def wG(x:fQ):D:=.agg [(gu 1 iD) x.1,(gu 1 iD) x.2]
def yb(x:(fN×(List fQ))):D:=.agg [(gu 1 iD) x.1,(gu 2 wG) x.2]
instance:xC gE 1:=⟨fun _=>rfl⟩
instance:xC wG 2:=⟨fun _=>rfl⟩
instance:xC yb 2:=⟨fun _=>rfl⟩
attribute [go_sem] gE wG yb
def UT:gB:=
 (.seq (.gv (sq 1 [bo 1 27 0,mb false])) (.seq (.seq (.gv (sq 5 [fa 0 1,ld 5,ln 6,bi .lss 7 1,mv 8]++sg 9 false 10 [fa 0 1,ld 10,ln 11,bi .gtr 12 8]++sq 14 [po 9 13])) (.cond (t0 14) (.seq (.gv (sq 2 [mb false])) .ret) .skip)) (.seq (.seq (.gv (sq 15 [fa 0 1,ld 15,ln 16,mi 0])) (.block 0 (.loop (.seq (.gv (sq 19 [bn .lss 18 17])) (.seq (.cond (t0 19) .skip (.exit 0)) (.seq (.block 1 (.seq (.gv (sq 20 [ix 1 16 18,ld 20]++sq 4 [mv 21])) (.seq (.gv (sq 22 [mv 4,bi .lss 22 0,mv 23]++sg 24 false 25 [mv 4,bi .gtr 25 3]++sq 27 [po 24 26])) (.cond (t0 27) (.seq (.gv (sq 2 [mb false])) .ret) .skip)))) (.gv (sq 28 [bi .add 18 1]++sq 18 [mv 28])))))))) (.seq (.gv (sq 2 [mb true])) .ret))))
theorem Wg:kG Tryz.prog 88 UT 29 [.tmp 2]:=mf Tryz.func88 Tryz.ntmps88
def qt(sig:fN):Int->Option fS
 |v18=>
  if(decide (v18<(sig.length:Int)))=true then
   if 0<=v18/\v18<(sig.length:Int)then
    if(decide ((sig.getD v18.toNat default)<0))=true then
     Option.map Sum.inr (
      some false)
    else
     if(decide (3<(sig.getD v18.toNat default)))=true then
      Option.map Sum.inr (
       some false)
     else
      some (.inl (IntKind.i64.wrap (v18+1)))
   else none
  else
   Option.map Sum.inr (
    some true)
def pO(sig:fN):Option Bool:=
 if(decide ((sig.length:Int)<1))=true then
  some false
 else
  if(decide (8<(sig.length:Int)))=true then
   some false
  else
   gF (qt sig) 0
instance NK{sig:fN}:gP (pO sig) fun rr=>iw Tryz.prog 88 [gE sig] (bD rr):=⟨@fun rr h=>by
 delta pO at h;refine Wg.iu (gr ?_);delta UT;refine gW ?_;refine iF h fun hc h=>?_
 refine iF h fun hc h=>?_
 refine jC h [2,4,18,19,20,21,22,23,24,25,26,27,28] (fun pp=>[(18,.d (iD pp))]) (fun pp=>[(1,.obj 27 [.d (gu 1 iD sig)])]) ?_;rintro v18 t1 h hb1;unfold qt at h;try dsimp only at h
 refine gr (gW ?_);exact mj⟩
def UU:gB:=
 (.seq (.gv (sq 2 [mi 0])) (.seq (.seq (.gv (sq 5 [mv 0,ln 5,bi .lss 6 1])) (.cond (t0 7) (.gv (sq 8 [.DJ 9 (.const (.string {data:=#[115,108,105,99,101,115,46,77,105,110,58,32,101,109,112,116,121,32,108,105,115,116]}))]++s0 (.OR (t0 8)))) .skip)) (.seq (.gv (sq 9 [mv 0,.qj 1 (t0 9) (i0 0),ld 10]++sq 3 [mv 11])) (.seq (.seq (.gv (sq 4 [mi 1])) (.block 0 (.loop (.seq (.seq (.gv (sq 12 [mv 4,mv 0,ln 13,bn .lss 12 14])) (.cond (t0 15) .skip (.exit 0))) (.seq (.block 1 (.gv (sq 18 [mv 3,mv 0,mv 4,ix 1 19 20,ld 21,.min (t0 18) (t0 22)]++sq 3 [mv 23]))) (.gv (sq 16 [mv 4,bi .add 16 1]++sq 4 [mv 17]))))))) (.seq (.gv (sq 24 [mv 3]++sq 2 [mv 24])) .ret)))))
theorem Wh:kG Tryz.prog 89 UU 25 [.tmp 2]:=mf Tryz.func89 Tryz.ntmps89
def mh(x:fN):ga->Option (ga⊕Int)
 |(m,i)=>
  if(decide (i<(x.length:Int)))=true then
   if 0<=i/\i<(x.length:Int)then
    some (.inl ((if(x.getD i.toNat default)<m then(x.getD i.toNat default)else m),(IntKind.i64.wrap (i+1))))
   else none
  else
   Option.map Sum.inr (
    some m)
def jY(x:fN):Option Int:=
 if(decide ((x.length:Int)<1))=true then
  none
 else
  if 0<=0/\0<(x.length:Int)then
   gF (mh x) ((x.getD 0 default),1)
  else none
instance Ct{x:fN}:gP (jY x) fun rr=>iw Tryz.prog 89 [(gu 1 iD) x] (iD rr):=⟨@fun rr h=>by
 delta jY at h;refine Wh.iu (gr ?_);delta UU;refine gW ?_;refine iF h fun hc h=>?_
 refine iC h fun hp h=>?_
 refine jC h [3,4,12,13,14,15,16,17,18,19,20,21,22,23] (fun pp=>[(3,.d (iD pp.1)),(4,.d (iD pp.2))]) (fun pp=>[]) ?_;rintro⟨m,i⟩ t1 h hb1;unfold mh at h;try dsimp only at h
 refine gr (gW ?_);exact mj⟩
def Qs:gB:=
 (.seq (.gv (sq 2 [bo 2 27 0]++sq 4 [mi 0])) (.seq (.seq (.gv (sq 5 [mv 1,bi .lss 5 0])) (.cond (t0 6) (.seq (.gv (sq 4 [mi 0])) .ret) .skip)) (.seq (.gv (sq 7 [fa 0 2,ld 7,mv 1,ix 1 8 9,ld 10]++sq 4 [mv 11])) .ret)))
theorem TY:kG Tryz.prog 166 Qs 12 [.tmp 4]:=mf Tryz.func166 Tryz.ntmps166
def nM(sig:fN)(n:Int):Option Int:=
 if(decide (n<0))=true then
  some 0
 else
  if 0<=n/\n<(sig.length:Int)then
   some (sig.getD n.toNat default)
  else none
instance KN{sig:fN}{n:Int}:gP (nM sig n) fun rr=>iw Tryz.prog 166 [gE sig,iD n] (iD rr):=⟨@fun rr h=>by
 delta nM at h;refine TY.iu (gr ?_);delta Qs;refine gW ?_;exact mj⟩
def Qv:gB:=
 (.seq (.gv (sq 2 [mi 0])) (.seq (.seq (.draw (sq 3 [mv 0,.nD (t0 3),fa 2 4,ld 5,mv 0,.nD (t0 7),fa 1 8,ld 9,ln 10,bn .geq 6 11,mv 12]++sg 13 false 14 [mv 0,.nD (t0 14),fa 1 15,ld 16,mv 0,.nD (t0 18),fa 2 19,ld 20,ix 1 17 21,ld 22,mv 0,.nD (t0 24),fa 0 25,fa 0 26,ld 27,ln 28,bn .geq 23 29]++sq 31 [po 13 30]) [[],[0],[1],[2],[],[4],[5],[6],[7],[3,8],[9],[10],[11,10],[12,10],[13,10],[10],[15,10],[16,10],[17,10],[14,18,10],[19,10],[10],[21,10],[22,10],[23,10],[24,10],[25,10],[20,26,10],[10,27]]) (.cond (t0 31) (.seq (.gv (sq 2 [mi (-1)])) .ret) .skip)) (.seq (.gv (sq 32 [mv 0,.nD (t0 32),fa 2 33,ld 34,bi .add 35 1,.nD (t0 32),fa 2 37]++s0 (sr 1 38 36))) (.seq (.draw (sq 39 [mv 0,.nD (t0 39),fa 0 40,la 1 41,mv 0,.nD (t0 43),fa 1 44,ld 45,mv 0,.nD (t0 47),fa 2 48,ld 49,bi .sub 50 1,ix 1 46 51,ld 52,cf 166 [42,53]]++sq 2 [mv 54]) [[],[0],[1],[2],[],[4],[5],[6],[],[8],[9],[10],[11],[7,12],[13],[3,14],[15,15,0,1,2,3,4,5,6,7,8,9,10,11,12,13,14,15]]) .ret))))
theorem T1:kG Tryz.prog 175 Qv 55 [.tmp 2]:=mf Tryz.func175 Tryz.ntmps175
def mI(c0:fN)(c1:fN)(c2:Int):Option ga:=
 if(decide ((c1.length:Int)<=c2))=true then
  some ((-1),c2)
 else
  if 0<=c2/\c2<(c1.length:Int)then
   if(decide ((c0.length:Int)<=(c1.getD c2.toNat default)))=true then
    some ((-1),c2)
   else
    if 0<=(IntKind.i64.wrap ((IntKind.i64.wrap (c2+1))-1))/\(IntKind.i64.wrap ((IntKind.i64.wrap (c2+1))-1))<(c1.length:Int)then
     (nM c0 (c1.getD (IntKind.i64.wrap ((IntKind.i64.wrap (c2+1))-1)).toNat default)).bind fun r=>
     some (r,(IntKind.i64.wrap (c2+1)))
    else none
  else none
instance F9{c0:fN}{c1:fN}{c2:Int}:gP (mI c0 c1 c2) fun rr=>gG Tryz.prog 175 [.ptr 0 0] [(0,.obj 158 [.d (gu 1 iD c0),.d (gu 1 iD c1),.d (iD c2)])] 1 fun xx ss=>xx=.d (iD rr.1)/\ss=[(0,.obj 158 [.d (gu 1 iD c0),.d (gu 1 iD c1),.d (iD rr.2)])]:=⟨@fun rr h=>by
 delta mI at h;refine T1.kS (gr ?_);delta Qv;refine gW ?_;exact mj⟩
def Qd:gB:=
 (.seq (.gv (sq 2 [mb false])) (.seq (.seq (.gv (sq 3 [mi 1])) (.block 0 (.loop (.seq (.seq (.gv (sq 5 [mv 3,bi .gtr 5 0])) (.cond (t0 6) .skip (.exit 0))) (.seq (.block 1 (.seq (.gv (sq 9 [mv 0,cf 175 [9]]++sq 4 [mv 10])) (.seq (.seq (.gv (sq 11 [mv 4,bi .lss 11 0])) (.cond (t0 12) (.seq (.gv (sq 2 [mb false])) .ret) .skip)) (.gv (sq 13 [mv 3,mv 4,bn .add 13 14]++sq 3 [mv 15]))))) (.gv (sq 7 [mv 3,bi .sub 7 1]++sq 3 [mv 8]))))))) (.seq (.gv (sq 2 [mb true])) .ret)))
theorem TH:kG Tryz.prog 141 Qd 16 [.tmp 2]:=mf Tryz.func141 Tryz.ntmps141
def oP(c0:fN)(c1:fN):ga->Option (ga⊕(Bool×Int))
 |(need,c)=>
  if(decide (0<need))=true then
   (mI c0 c1 c).bind fun r=>
   if(decide (r.1<0))=true then
    Option.map Sum.inr (
     some (false,r.2))
   else
    some (.inl ((IntKind.i64.wrap ((IntKind.i64.wrap (need+r.1))-1)),r.2))
  else
   Option.map Sum.inr (
    some (true,c))
def mJ(c0:fN)(c1:fN)(c2:Int):Option (Bool×Int):=
 gF (oP c0 c1) (1,c2)
instance F_{c0:fN}{c1:fN}{c2:Int}:gP (mJ c0 c1 c2) fun rr=>gG Tryz.prog 141 [.ptr 0 0] [(0,.obj 158 [.d (gu 1 iD c0),.d (gu 1 iD c1),.d (iD c2)])] 1 fun xx ss=>xx=.d (bD rr.1)/\ss=[(0,.obj 158 [.d (gu 1 iD c0),.d (gu 1 iD c1),.d (iD rr.2)])]:=⟨@fun rr h=>by
 delta mJ at h;refine TH.kS (gr ?_);delta Qd;refine gW ?_;refine jC h [2,3,4,5,6,7,8,9,10,11,12,13,14,15] (fun pp=>[(3,.d (iD pp.1))]) (fun pp=>[(0,.obj 158 [.d (gu 1 iD c0),.d (gu 1 iD c1),.d (iD pp.2)])]) ?_;rintro⟨need,c⟩ t1 h hb1;unfold oP at h;try dsimp only at h
 refine gr (gW ?_);refine iT h fun hc h=>?_
 refine oB [(0,0)] [] h fun r hr h=>?_
 exact mj⟩
def UW:gB:=
 (.seq (.gv (sq 3 [bo 3 27 0]++sq 6 [mi 0])) (.seq (.gv (sq 8 [la 1 3,mv 1,mv 2,.build [.sl 0 (some true) [],.sl 0 (some true) [],.lit (.int .i64 0)] [(0,1,(t0 8)),(1,1,(t0 9)),(2,1,(t0 10))]]++sq 7 [.alloc 7 158 [.sl 0 (some true) [],.sl 0 (some true) [],.lit (.int .i64 0)]]++s0 (sr 3 7 11))) (.seq (.seq (.gv (sq 12 [cf 141 [7],nt 12])) (.cond (t0 13) (.seq (.gv (sq 6 [mi (-1)])) .ret) .skip)) (.seq (.gv (sq 14 [fa 2 7,ld 14]++sq 6 [mv 15])) .ret))))
theorem Wi:kG Tryz.prog 90 UW 16 [.tmp 6]:=mf Tryz.func90 Tryz.ntmps90
def om(sig:fN)(t:fN)(nF:Int):Option Int:=
 (mJ sig t nF).bind fun r=>
 if r.1=true then
  some r.2
 else
  some (-1)
instance NM{sig:fN}{t:fN}{nF:Int}:gP (om sig t nF) fun rr=>iw Tryz.prog 90 [gE sig,(gu 1 iD) t,iD nF] (iD rr):=⟨@fun rr h=>by
 delta om at h;refine Wi.iu (gr ?_);delta UW;refine gW ?_;refine oB [(0,7)] [] h fun r hr h=>?_
 exact mj⟩
def Ux:gB:=
 (.seq (.gv (sq 2 [bo 2 27 0]++sq 4 [mb false])) (.seq (.gv (sq 5 [la 1 2,cf 88 [5],mv 6]++sg 7 true 8 [mv 1,ln 8,bi .gtr 9 0]++sq 11 [pa 7 10,mv 11]++sg 12 true 13 [mv 1,ln 13,bi .leq 14 60]++sq 16 [pa 12 15,mv 16]++sg 17 true 18 [mv 1,cf 89 [18],bi .geq 19 (-24)]++sq 21 [pa 17 20,mv 21]++sg 22 true 23 [la 1 2,mv 1,.iy 90 [(t0 23),(t0 24),(i0 0)],mv 1,ln 26,bn .eql 25 27]++sq 29 [pa 22 28]++sq 4 [mv 29])) .ret))
theorem VS:kG Tryz.prog 53 Ux 30 [.tmp 4]:=mf Tryz.func53 Tryz.ntmps53
def oJ(sig:fN)(t:fN):Option Bool:=
 (pO sig).bind fun r=>
 if r=true then
  if(decide (0<(t.length:Int)))=true then
   if(decide ((t.length:Int)<=60))=true then
    (jY t).bind fun r_1=>
    if(decide ((-24)<=r_1))=true then
     (om sig t 0).bind fun r_2=>
     some (r_2==(t.length:Int))
    else
     some false
   else
    some false
  else
   some false
 else
  some false
instance M7{sig:fN}{t:fN}:gP (oJ sig t) fun rr=>iw Tryz.prog 53 [gE sig,(gu 1 iD) t] (bD rr):=⟨@fun rr h=>by
 delta oJ at h;refine VS.iu (gr ?_);delta Ux;refine gW ?_;exact mj⟩
def UG:gB:=
 (.seq (.gv (sq 6 [mb false])) (.seq (.gv (sq 7 [mv 0,mv 1,bn .geq 7 8,mv 9]++sg 10 true 11 [mv 0,mv 2,bn .leq 11 12]++sq 14 [pa 10 13]++sq 6 [mv 14])) .ret))
theorem V1:kG Tryz.prog 66 UG 15 [.tmp 6]:=mf Tryz.func66 Tryz.ntmps66
def mz(x:Int)(lo:Int)(hi:Int):Option Bool:=
 if(decide (lo<=x))=true then
  some (decide (x<=hi))
 else
  some false
instance Py{x:Int}{lo:Int}{hi:Int}:gP (mz x lo hi) fun rr=>iw Tryz.prog 66 [iD x,iD lo,iD hi] (bD rr):=⟨@fun rr h=>by
 delta mz at h;refine V1.iu (gr ?_);delta UG;refine gW ?_;exact mj⟩
def PO:gB:=
 (.seq (.gv (sq 1 [bo 1 27 0,mb false])) (.seq (.seq (.gv (sq 4 [fa 0 1,ld 4,ln 5,.iy 66 [(t0 6),(i0 1),(i0 8)],nt 7])) (.cond (t0 8) (.seq (.gv (sq 2 [mb false])) .ret) .skip)) (.seq (.seq (.gv (sq 3 [mi 0])) (.block 0 (.loop (.seq (.seq (.gv (sq 9 [mv 3,fa 0 1,ld 10,ln 11,bn .lss 9 12])) (.cond (t0 13) .skip (.exit 0))) (.seq (.block 1 (.seq (.gv (sq 16 [fa 0 1,ld 16,mv 3,ix 1 17 18,ld 19,.iy 66 [(t0 20),(i0 0),(i0 3)],nt 21])) (.cond (t0 22) (.seq (.gv (sq 2 [mb false])) .ret) .skip))) (.gv (sq 14 [mv 3,bi .add 14 1]++sq 3 [mv 15]))))))) (.seq (.gv (sq 2 [mb true])) .ret))))
theorem Tk:kG Tryz.prog 104 PO 23 [.tmp 2]:=mf Tryz.func104 Tryz.ntmps104
def qw(sig:fN):Int->Option fS
 |f=>
  if(decide (f<(sig.length:Int)))=true then
   if 0<=f/\f<(sig.length:Int)then
    (mz (sig.getD f.toNat default) 0 3).bind fun r_1=>
    if r_1=true then
     some (.inl (IntKind.i64.wrap (f+1)))
    else
     Option.map Sum.inr (
      some false)
   else none
  else
   Option.map Sum.inr (
    some true)
def nr(sig:fN):Option Bool:=
 (mz (sig.length:Int) 1 8).bind fun r=>
 if r=true then
  gF (qw sig) 0
 else
  some false
instance NQ{sig:fN}:gP (nr sig) fun rr=>iw Tryz.prog 104 [gE sig] (bD rr):=⟨@fun rr h=>by
 delta nr at h;refine Tk.iu (gr ?_);delta PO;refine gW ?_;refine rC h fun r hr h=>?_
 refine iT h fun hc h=>?_
 refine jC h [2,3,9,10,11,12,13,14,15,16,17,18,19,20,21,22] (fun pp=>[(3,.d (iD pp))]) (fun pp=>[(1,.obj 27 [.d (gu 1 iD sig)])]) ?_;rintro f t1 h hb1;unfold qw at h;try dsimp only at h
 refine gr (gW ?_);exact mj⟩
def Qo:gB:=
 (.seq (.gv (sq 2 [bo 2 27 0]++sq 4 [mi 0])) (.seq (.block 0 (.seq (.gv (sq 6 [mv 1,.iy 66 [(t0 6),(i0 (-24)),(i0 (-1))]]++sq 5 [mv 7])) (.cond (t0 5) (.seq (.gv (sq 4 [mi 0])) .ret) (.seq (.gv (sq 9 [mv 1,fa 0 2,ld 10,ln 11,bi .sub 12 1,.iy 66 [(t0 9),(i0 0),(t0 13)]]++sq 8 [mv 14])) (.cond (t0 8) (.seq (.gv (sq 15 [fa 0 2,ld 15,mv 1,ix 1 16 17,ld 18]++sq 4 [mv 19])) .ret) .skip))))) (.seq (.gv (sq 4 [mi (-1)])) .ret)))
theorem TT:kG Tryz.prog 159 Qo 20 [.tmp 4]:=mf Tryz.func159 Tryz.ntmps159
def nR(sig:fN)(n:Int):Option Int:=
 (mz n (-24) (-1)).bind fun r=>
 if r=true then
  some 0
 else
  (mz n 0 (IntKind.i64.wrap ((sig.length:Int)-1))).bind fun r_1=>
  if r_1=true then
   if 0<=n/\n<(sig.length:Int)then
    some (sig.getD n.toNat default)
   else none
  else
   some (-1)
instance KR{sig:fN}{n:Int}:gP (nR sig n) fun rr=>iw Tryz.prog 159 [gE sig,iD n] (iD rr):=⟨@fun rr h=>by
 delta nR at h;refine TT.iu (gr ?_);delta Qo;refine gW ?_;exact mj⟩
def PS:gB:=
 (.seq (.gv (sq 3 [bo 3 27 0]++sq 6 [mi 0])) (.seq (.gv (sq 7 [mi 1])) (.seq (.seq (.gv (sq 10 [mv 2]++sq 8 [mv 10])) (.block 0 (.loop (.seq (.seq (.gv (sq 11 [mv 8,mv 1,ln 12,bn .lss 11 13])) (.cond (t0 14) .skip (.exit 0))) (.seq (.block 1 (.seq (.draw (sq 17 [la 1 3,mv 1,mv 8,ix 1 18 19,ld 20,cf 159 [17,21]]++sq 9 [mv 22]) [[],[],[],[1,2],[3],[0,4],[5,5,0,1,2,3,4,5]]) (.seq (.seq (.gv (sq 23 [mv 9,bi .lss 23 0])) (.cond (t0 24) (.seq (.gv (sq 6 [mi (-1)])) .ret) .skip)) (.seq (.gv (sq 25 [mv 7,mv 9,bn .add 25 26,bi .sub 27 1]++sq 7 [mv 28])) (.seq (.gv (sq 29 [mv 7,bi .eql 29 0])) (.cond (t0 30) (.seq (.gv (sq 31 [mv 8,bi .add 31 1]++sq 6 [mv 32])) .ret) .skip)))))) (.gv (sq 15 [mv 8,bi .add 15 1]++sq 8 [mv 16]))))))) (.seq (.gv (sq 6 [mi (-1)])) .ret))))
theorem Tn:kG Tryz.prog 106 PS 33 [.tmp 6]:=mf Tryz.func106 Tryz.ntmps106
def tB(sig:fN)(t:fN):ga->Option (ga⊕Int)
 |(need,i)=>
  if(decide (i<(t.length:Int)))=true then
   if 0<=i/\i<(t.length:Int)then
    (nR sig (t.getD i.toNat default)).bind fun r=>
    if(decide (r<0))=true then
     Option.map Sum.inr (
      some (-1))
    else
     if((IntKind.i64.wrap ((IntKind.i64.wrap (need+r))-1))==0)=true then
      Option.map Sum.inr (
       some (IntKind.i64.wrap (i+1)))
     else
      some (.inl ((IntKind.i64.wrap ((IntKind.i64.wrap (need+r))-1)),(IntKind.i64.wrap (i+1))))
   else none
  else
   Option.map Sum.inr (
    some (-1))
def ny(sig:fN)(t:fN)(nF:Int):Option Int:=
 gF (tB sig t) (1,nF)
instance NS{sig:fN}{t:fN}{nF:Int}:gP (ny sig t nF) fun rr=>iw Tryz.prog 106 [gE sig,(gu 1 iD) t,iD nF] (iD rr):=⟨@fun rr h=>by
 delta ny at h;refine Tn.iu (gr ?_);delta PS;refine gW ?_;refine jC h [6,7,8,9,11,12,13,14,15,16,17,18,19,20,21,22,23,24,25,26,27,28,29,30,31,32] (fun pp=>[(7,.d (iD pp.1)),(8,.d (iD pp.2))]) (fun pp=>[(3,.obj 27 [.d (gu 1 iD sig)])]) ?_;rintro⟨need,i⟩ t1 h hb1;unfold tB at h;try dsimp only at h
 refine gr (gW ?_);exact mj⟩
def UC:gB:=
 (.seq (.gv (sq 2 [bo 2 27 0]++sq 4 [mb false])) (.seq (.gv (sq 5 [la 1 2,cf 104 [5],mv 6]++sg 7 true 8 [mv 1,ln 8,.iy 66 [(t0 9),(i0 1),(i0 60)]]++sq 11 [pa 7 10,mv 11]++sg 12 true 13 [la 1 2,mv 1,.iy 106 [(t0 13),(t0 14),(i0 0)],mv 1,ln 16,bn .eql 15 17]++sq 19 [pa 12 18]++sq 4 [mv 19])) .ret))
theorem VX:kG Tryz.prog 60 UC 20 [.tmp 4]:=mf Tryz.func60 Tryz.ntmps60
def lB(sig:fN)(t:fN):Option Bool:=
 (nr sig).bind fun r=>
 if r=true then
  (mz (t.length:Int) 1 60).bind fun r_1=>
  if r_1=true then
   (ny sig t 0).bind fun r_2=>
   some (r_2==(t.length:Int))
  else
   some false
 else
  some false
instance Nc{sig:fN}{t:fN}:gP (lB sig t) fun rr=>iw Tryz.prog 60 [gE sig,(gu 1 iD) t] (bD rr):=⟨@fun rr h=>by
 delta lB at h;refine VX.iu (gr ?_);delta UC;refine gW ?_;exact mj⟩
def QE:gB:=
 (.seq (.gv (sq 4 [mi 0])) (.seq (.seq (.gv (sq 6 [mv 0,ln 6,mi 0])) (.block 0 (.loop (.seq (.gv (sq 9 [bn .lss 8 7])) (.seq (.cond (t0 9) .skip (.exit 0)) (.seq (.block 1 (.seq (.gv (sq 10 [mv 8]++sq 5 [mv 10])) (.seq (.gv (sq 11 [mv 1,mv 0,mv 5,ix 1 12 13,ld 14,bn .eql 11 15])) (.cond (t0 16) (.seq (.gv (sq 17 [mv 5]++sq 4 [mv 17])) .ret) .skip)))) (.gv (sq 18 [bi .add 8 1]++sq 8 [mv 18])))))))) (.seq (.gv (sq 4 [mi (-1)])) .ret)))
theorem T_:kG Tryz.prog 195 QE 19 [.tmp 4]:=mf Tryz.func195 Tryz.ntmps195
def lI(s:fN)(v:Int):Int->Option (Int⊕Int)
 |v8=>
  if(decide (v8<(s.length:Int)))=true then
   if 0<=v8/\v8<(s.length:Int)then
    if(v==(s.getD v8.toNat default))=true then
     Option.map Sum.inr (
      some v8)
    else
     some (.inl (IntKind.i64.wrap (v8+1)))
   else none
  else
   Option.map Sum.inr (
    some (-1))
def jy(s:fN)(v:Int):Option Int:=
 gF (lI s v) 0
instance Bp{s:fN}{v:Int}:gP (jy s v) fun rr=>iw Tryz.prog 195 [(gu 1 iD) s,iD v] (iD rr):=⟨@fun rr h=>by
 delta jy at h;refine T_.iu (gr ?_);delta QE;refine gW ?_;refine jC h [4,5,8,9,10,11,12,13,14,15,16,17,18] (fun pp=>[(8,.d (iD pp))]) (fun pp=>[]) ?_;rintro v8 t1 h hb1;unfold lI at h;try dsimp only at h
 refine gr (gW ?_);exact mj⟩
def Qr:gB:=
 (.seq (.gv (sq 4 [mb false])) (.seq (.gv (sq 5 [mv 0,mv 1,cf 195 [5,6],bi .geq 7 0]++sq 4 [mv 8])) .ret))
theorem TX:kG Tryz.prog 164 Qr 9 [.tmp 4]:=mf Tryz.func164 Tryz.ntmps164
def iZ(s:fN)(v:Int):Option Bool:=
 (jy s v).bind fun r=>
 some (decide (0<=r))
instance Aw{s:fN}{v:Int}:gP (iZ s v) fun rr=>iw Tryz.prog 164 [(gu 1 iD) s,iD v] (bD rr):=⟨@fun rr h=>by
 delta iZ at h;refine TX.iu (gr ?_);delta Qr;refine gW ?_;exact mj⟩
def PT:gB:=
 (.seq (.gv (sq 4 [mb false])) (.seq (.seq (.gv (sq 5 [mi 0])) (.block 0 (.loop (.seq (.seq (.gv (sq 6 [mv 5,mv 0,ln 7,bn .lss 6 8])) (.cond (t0 9) .skip (.exit 0))) (.seq (.block 1 (.seq (.gv (sq 12 [mv 0,mv 5,ix 1 12 13,ld 14,mv 1,bn .eql 15 16])) (.cond (t0 17) (.seq (.gv (sq 4 [mb true])) .ret) .skip))) (.gv (sq 10 [mv 5,bi .add 10 1]++sq 5 [mv 11]))))))) (.seq (.gv (sq 4 [mb false])) .ret)))
theorem To:kG Tryz.prog 107 PT 18 [.tmp 4]:=mf Tryz.func107 Tryz.ntmps107
def qy(s:fN)(n:Int):Int->Option fS
 |i=>
  if(decide (i<(s.length:Int)))=true then
   if 0<=i/\i<(s.length:Int)then
    if((s.getD i.toNat default)==n)=true then
     Option.map Sum.inr (
      some true)
    else
     some (.inl (IntKind.i64.wrap (i+1)))
   else none
  else
   Option.map Sum.inr (
    some false)
def kP(s:fN)(n:Int):Option Bool:=
 gF (qy s n) 0
instance NT{s:fN}{n:Int}:gP (kP s n) fun rr=>iw Tryz.prog 107 [(gu 1 iD) s,iD n] (bD rr):=⟨@fun rr h=>by
 delta kP at h;refine To.iu (gr ?_);delta PT;refine gW ?_;refine jC h [4,5,6,7,8,9,10,11,12,13,14,15,16,17] (fun pp=>[(5,.d (iD pp))]) (fun pp=>[]) ?_;rintro i t1 h hb1;unfold qy at h;try dsimp only at h
 refine gr (gW ?_);exact mj⟩
def g_(x:fO):D:=.agg [(gu 1 (gu 1 iD)) x]
instance:xC g_ 1:=⟨fun _=>rfl⟩
attribute [go_sem] g_
def P4:gB:=
 (.seq (.gv (sq 3 [bo 3 27 0]++sq 6 [.mv (.const (.slice none 0 0))])) (.seq (.gv (sq 7 [mv 1,mv 2,la 1 3,mv 1,mv 2,cf 90 [9,10,11],.slc (t0 7) 1 (some (t0 8)) (some (t0 12)) none]++sq 6 [mv 13])) .ret))
theorem Tx:kG Tryz.prog 124 P4 14 [.tmp 6]:=mf Tryz.func124 Tryz.ntmps124
def ni(sig:fN)(t:fN)(nF:Int):Option fN:=
 (om sig t nF).bind fun r=>
 if 0<=nF/\nF<=r/\r<=(t.length:Int)then
  some ((t.take r.toNat).drop nF.toNat)
 else none
instance NP{sig:fN}{t:fN}{nF:Int}:gP (ni sig t nF) fun rr=>iw Tryz.prog 124 [gE sig,(gu 1 iD) t,iD nF] ((gu 1 iD) rr):=⟨@fun rr h=>by
 delta ni at h;refine Tx.iu (gr ?_);delta P4;refine gW ?_;exact mj⟩
def P3:gB:=
 (.seq (.gv (sq 3 [bo 3 27 0]++sq 6 [.mv (.const (.slice none 0 0))])) (.seq (.gv (sq 7 [.mv (.const (.slice none 0 0))])) (.seq (.gv (sq 10 [mv 2,bi .add 10 1]++sq 8 [mv 11])) (.seq (.seq (.draw (sq 12 [la 1 3,mv 1,mv 2,ix 1 13 14,ld 15,cf 166 [12,16]]++sq 9 [mv 17]) [[],[],[],[1,2],[3],[0,4],[5,5,0,1,2,3,4,5]]) (.block 0 (.loop (.seq (.seq (.gv (sq 18 [mv 9,bi .gtr 18 0])) (.cond (t0 19) .skip (.exit 0))) (.seq (.block 1 (.seq (.gv (sq 22 [mv 7,mv 8,.mW 24 3 1 [(t0 23)],ap 25 3 1 8 22 24]++sq 7 [mv 25])) (.gv (sq 26 [la 1 3,mv 1,mv 8,cf 90 [26,27,28]]++sq 8 [mv 29])))) (.gv (sq 20 [mv 9,bi .sub 20 1]++sq 9 [mv 21]))))))) (.seq (.gv (sq 30 [mv 7]++sq 6 [mv 30])) .ret)))))
theorem Tw:kG Tryz.prog 123 P3 31 [.tmp 6]:=mf Tryz.func123 Tryz.ntmps123
def rZ(sig:fN)(t:fN):fP->Option (fP⊕fN)
 |(out,next',n)=>
  if(decide (0<n))=true then
   if(out.length+1)*8<=140737488355328 then
    (om sig t next').bind fun r_1=>
    some (.inl ((out++[next']),r_1,(IntKind.i64.wrap (n-1))))
   else none
  else
   Option.map Sum.inr (
    some out)
def mu(sig:fN)(t:fN)(nF:Int):Option fN:=
 if 0<=nF/\nF<(t.length:Int)then
  (nM sig (t.getD nF.toNat default)).bind fun r=>
  gF (rZ sig t) ([],(IntKind.i64.wrap (nF+1)),r)
 else none
instance M9{sig:fN}{t:fN}{nF:Int}:gP (mu sig t nF) fun rr=>iw Tryz.prog 123 [gE sig,(gu 1 iD) t,iD nF] ((gu 1 iD) rr):=⟨@fun rr h=>by
 delta mu at h;refine Tw.iu (gr ?_);delta P3;refine gW ?_;refine iC h fun hp h=>?_
 refine dC h fun r hr h=>?_
 refine iY (by kernel_rfl) (gW ?_);refine pS h [7,8,9,18,19,20,21,22,23,24,25,26,27,28,29] (fun pp=>[(7,.own 1 25 (List.map iD pp.1)),(8,.d (iD pp.2.1)),(9,.d (iD pp.2.2))]) (fun pp=>[(3,.obj 27 [.d (gu 1 iD sig)]),(25,.tok 3 1 pp.1.length)]) ?_ ?_
 ·try dsimp only
  refine(gM.CJ 7 25 3 1 rfl rfl).trans ?_;exact wk
 rintro⟨out,next',n⟩ t1 h hb1;unfold rZ at h;try dsimp only at h
 refine gr (gW ?_);refine iT h fun hc h=>?_
 refine iC h fun hp h=>?_
 refine rC h fun r_1 hr_1 h=>?_
 cases h;refine⟨_,rfl,?_⟩;refine(gM.drop 24 gq).trans ?_;exact wk⟩
def PR:gB:=
 (.seq (.gv (sq 2 [.mv (.const (.slice none 0 0))])) (.seq (.gv (sq 3 [.mW 3 2 1 [],mv 0,ap 5 2 1 8 3 4]++sq 2 [mv 5])) .ret))
theorem Tl:kG Tryz.prog 105 PR 6 [.tmp 2]:=mf Tryz.func105 Tryz.ntmps105
def nG(l:fN):Option fN:=
 if(0+l.length)*8<=140737488355328 then
  some l
 else none
instance Ng{l:fN}:gP (nG l) fun rr=>gG Tryz.prog 105 [.d (gu 1 iD l)] [] 0 fun xx ss=>xx=.own 1 3 (List.map iD rr)/\ss=[(3,.tok 2 1 rr.length)]:=⟨@fun rr h=>by
 delta nG at h;refine Tl.kS (gr ?_);delta PR;refine gW ?_;exact mj⟩
def PX:gB:=
 (.seq (.gv (sq 3 [bo 3 27 0]++sq 6 [.mv (.const (.slice none 0 0))])) (.seq (.gv (sq 7 [mv 1,mv 2,la 1 3,mv 1,mv 2,cf 106 [9,10,11],.slc (t0 7) 1 (some (t0 8)) (some (t0 12)) none,cf 105 [13]]++sq 6 [mv 14])) .ret))
theorem Ts:kG Tryz.prog 112 PX 15 [.tmp 6]:=mf Tryz.func112 Tryz.ntmps112
def iQ(sig:fN)(t:fN)(nF:Int):Option fN:=
 (ny sig t nF).bind fun r=>
 if 0<=nF/\nF<=r/\r<=(t.length:Int)then
  (nG ((t.take r.toNat).drop nF.toNat)).bind fun r_1=>
  some r_1
 else none
instance N0{sig:fN}{t:fN}{nF:Int}:gP (iQ sig t nF) fun rr=>iw Tryz.prog 112 [gE sig,(gu 1 iD) t,iD nF] ((gu 1 iD) rr):=⟨@fun rr h=>by
 delta iQ at h;refine Ts.iu (gr ?_);delta PX;refine gW ?_;refine rC h fun r hr h=>?_
 refine iC h fun hp h=>?_
 refine oB [] [(3,14)] h fun r_1 hr_1 h=>?_
 exact mj⟩
def QF:gB:=
 (.seq (.gv (sq 2 [bo 2 47 0]++sq 4 [.mv (.const (.slice none 0 0))])) (.seq (.seq (.gv (sq 5 [mv 1,fa 0 2,ld 6,ln 7,bn .geq 5 8,mv 9]++sg 10 false 11 [fa 0 2,ld 11,mv 1,ix 1 12 13,ld 14,ln 15,bi .eql 16 0]++sq 18 [po 10 17])) (.cond (t0 18) (.seq (.gv (sq 4 [.mv (.const (.slice none 0 0))])) .ret) .skip)) (.seq (.gv (sq 19 [fa 0 2,ld 19,mv 1,ix 1 20 21,ld 22]++sq 4 [mv 23])) .ret)))
theorem Ua:kG Tryz.prog 223 QF 24 [.tmp 4]:=mf Tryz.func223 Tryz.ntmps223
def uf(s:fO)(i:Int):Option fN:=
 if(decide ((s.length:Int)<=i))=true then
  some []
 else
  if 0<=i/\i<(s.length:Int)then
   if(((s.getD i.toNat default).length:Int)==0)=true then
    some []
   else
    if 0<=i/\i<(s.length:Int)then
     if 0<(s.getD i.toNat default).length then
      some (s.getD i.toNat default)
     else none
    else none
  else none
instance F8{s:fO}{i:Int}:gP (uf s i) fun rr=>iw Tryz.prog 223 [g_ s,iD i] ((rY 1 iD) rr):=⟨@fun rr h=>by
 delta uf at h;refine Ua.iu (gr ?_);delta QF;refine gW ?_;refine iF h fun hc h=>?_
 refine iC h fun hp h=>?_
 refine iF h fun hc h=>?_
 refine iC h fun hp h=>?_
 refine iC h fun hp h=>?_
 cases h;exact(A1 gq).2 trivial⟩
def UB:gB:=
 (.seq (.gv (sq 2 [bo 2 47 0]++sq 4 [.mv (.const (.slice none 0 0))])) (.seq (.seq (.gv (sq 5 [mv 1,fa 0 2,ld 6,ln 7,bn .lss 5 8,mv 9]++sg 10 true 11 [fa 0 2,ld 11,mv 1,ix 1 12 13,ld 14,ln 15,bi .gtr 16 0]++sq 18 [pa 10 17])) (.cond (t0 18) (.seq (.gv (sq 19 [fa 0 2,ld 19,mv 1,ix 1 20 21,ld 22,cf 105 [23]]++sq 4 [mv 24])) .ret) .skip)) (.seq (.gv (sq 25 [mv 1,.bin .sub (i0 (-1)) (t0 25),.mW 27 2 1 [(t0 26)]]++sq 4 [mv 27])) .ret)))
theorem VW:kG Tryz.prog 59 UB 28 [.tmp 4]:=mf Tryz.func59 Tryz.ntmps59
def lK(s:fO)(i:Int):Option fN:=
 if(decide (i<(s.length:Int)))=true then
  if 0<=i/\i<(s.length:Int)then
   if(decide (0<((s.getD i.toNat default).length:Int)))=true then
    if 0<=i/\i<(s.length:Int)then
     (nG (s.getD i.toNat default)).bind fun r=>
     some r
    else none
   else
    some [(IntKind.i64.wrap ((-1)-i))]
  else none
 else
  some [(IntKind.i64.wrap ((-1)-i))]
instance KX{s:fO}{i:Int}:gP (lK s i) fun rr=>iw Tryz.prog 59 [g_ s,iD i] ((gu 1 iD) rr):=⟨@fun rr h=>by
 delta lK at h;refine VW.iu (gr ?_);delta UB;refine gW ?_;refine iT h fun hc h=>?_
 refine iC h fun hp h=>?_
 refine iT h fun hc h=>?_
 refine iC h fun hp h=>?_
 refine oB [] [(3,24)] h fun r hr h=>?_
 exact mj⟩
def UD:gB:=
 (.seq (.gv (sq 2 [bo 2 47 0]++sq 4 [.mv (.const (.slice none 0 0)),mb false])) (.seq (.gv (sq 8 [.mW 8 2 1 []]++sq 6 [mv 8])) (.seq (.seq (.gv (sq 7 [mi 0])) (.block 0 (.loop (.seq (.seq (.gv (sq 9 [mv 7,mv 1,ln 10,bn .lss 9 11])) (.cond (t0 12) .skip (.exit 0))) (.seq (.block 1 (.seq (.seq (.gv (sq 15 [mv 1,mv 7,ix 1 15 16,ld 17,bi .lss 18 0])) (.cond (t0 19) (.draw (sq 20 [mv 6,la 1 2,mv 1,mv 7,ix 1 22 23,ld 24,.bin .sub (i0 (-1)) (t0 25),cf 59 [21,26],ap 28 2 1 8 20 27]++sq 6 [mv 28]) [[],[],[],[],[2,3],[4],[5],[1,6],[0,7,7],[8,8,0,1,2,3,4,5,6,7,8]]) (.gv (sq 29 [mv 6,mv 1,mv 7,ix 1 30 31,ld 32,.mW 34 2 1 [(t0 33)],ap 35 2 1 8 29 34]++sq 6 [mv 35])))) (.seq (.gv (sq 36 [mv 6,ln 36,bi .gtr 37 60])) (.cond (t0 38) (.seq (.gv (sq 39 [.mW 39 2 1 []]++sq 4 [mv 39,mb false])) .ret) .skip)))) (.gv (sq 13 [mv 7,bi .add 13 1]++sq 7 [mv 14]))))))) (.seq (.gv (sq 40 [mv 6]++sq 4 [mv 40,mb true])) .ret))))
theorem VY:kG Tryz.prog 61 UD 41 [.tmp 4,.tmp 5]:=mf Tryz.func61 Tryz.ntmps61
def qG(s:fO)(t:fN):fT->Option (fT⊕(fN×Bool))
 |(out,i)=>
  if(decide (i<(t.length:Int)))=true then
   if 0<=i/\i<(t.length:Int)then
    if(decide ((t.getD i.toNat default)<0))=true then
     if 0<=i/\i<(t.length:Int)then
      (lK s (IntKind.i64.wrap ((-1)-(t.getD i.toNat default)))).bind fun r=>
      if(out.length+r.length)*8<=140737488355328 then
       if(decide (60<((out++r).length:Int)))=true then
        Option.map Sum.inr (
         some ([],false))
       else
        some (.inl ((out++r),(IntKind.i64.wrap (i+1))))
      else none
     else none
    else
     if 0<=i/\i<(t.length:Int)then
      if(out.length+1)*8<=140737488355328 then
       if(decide (60<((out++[(t.getD i.toNat default)]).length:Int)))=true then
        Option.map Sum.inr (
         some ([],false))
       else
        some (.inl ((out++[(t.getD i.toNat default)]),(IntKind.i64.wrap (i+1))))
      else none
     else none
   else none
  else
   Option.map Sum.inr (
    some (out,true))
def lQ(s:fO)(t:fN):Option (fN×Bool):=
 gF (qG s t) ([],0)
instance Kn{s:fO}{t:fN}:gP (lQ s t) fun rr=>rW Tryz.prog 61 [g_ s,(gu 1 iD) t] [(gu 1 iD) rr.1,bD rr.2]:=⟨@fun rr h=>by
 delta lQ at h;refine VY.uA (gr ?_);delta UD;refine gW ?_;refine jC h [4,5,6,7,9,10,11,12,13,14,15,16,17,18,19,20,21,22,23,24,25,26,27,28,29,30,31,32,33,34,35,36,37,38,39] (fun pp=>[(6,.own 1 8 (List.map iD pp.1)),(7,.d (iD pp.2))]) (fun pp=>[(2,.obj 47 [.d (gu 1 (gu 1 iD) s)]),(8,.tok 2 1 pp.1.length)]) ?_;rintro⟨out,i⟩ t1 h hb1;unfold qG at h;try dsimp only at h
 refine gr (gW ?_);refine iT h fun hc h=>?_
 refine iC h fun hp h=>?_
 refine iF h fun hc h=>?_
 refine iC h fun hp h=>?_
 refine iC h fun hp h=>?_
 refine iF h fun hc h=>?_
 cases h;refine⟨_,rfl,?_⟩;refine(gM.drop 34 gq).trans ?_;exact wk⟩
end Go.Proofs.YthdnkoejpdcnpaaGreat
