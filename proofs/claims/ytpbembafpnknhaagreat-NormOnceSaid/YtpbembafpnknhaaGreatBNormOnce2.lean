/- Proof texts of one seat,in one file: the walks of functions and the lemmas under them,printed by programs and typed by hand. Put together by wip/bundle.py. -/
import Derived.Test.YtpbembafpnknhaaGreatRows
import Derived.ArgAppend
import Derived.Below
import Derived.BigQuiet
import Derived.ChangeArms
import Derived.ChangeOld
import Derived.ChangeSlices
import Derived.Deep.AppendLies
import Derived.Deep.CutBlock
import Derived.Deep.DeepCutAuto
import Derived.Deep.Draws
import Derived.Deep.LoopGhost
import Derived.Deep.OwnRows
import Derived.Deep.QuietTactic
import Derived.Deep.RegionHeld3
import Derived.Deep.RegionLawGrows
import Derived.Deep.Upon
import Derived.Ground.Names2Prog
import Derived.Ground.SlgfProg
import Derived.Ground.SlgnProg
import Derived.Ground.SlsfProg
import Derived.JoinedOf
import Derived.KernelRfl
import Derived.Laws.BitsLemmas
import Derived.Laws.BytesArg
import Derived.Laws.IdiomCopy
import Derived.Laws.MakeOwn
import Derived.Laws.OwnMore
import Derived.Laws.Rows
import Derived.Laws.Slices
import Derived.Laws.StructEq
import Derived.Lib.AppendStr
import Derived.Lib.ConvBytes
import Derived.Lib.Hide
import Derived.Maps.AppendAt
import Derived.OpenShut
import Derived.OrdersHeld
import Derived.OwnWalk
import Derived.ProofKit
import Derived.RowKit
import Derived.RowKit3
import Derived.Shelf.GgSortFunc.InsertionK
import Derived.Shelf.SlGeneric
import Derived.Shelf.SlSortCmp.NoneTotal
import Derived.Shelf.Slices.In.SortNone
import Derived.Shelf.SlicesE.Clone
import Derived.Shelf.SlicesQ.IndexFunc
import Derived.Shelf.Sort.Plain
import Derived.ShutString
import Derived.SizedLaws
import Derived.Sort.Grow
import Derived.Sort.Walk0
import Derived.StillTailTactics
import Derived.Tactics
import Derived.WalkKit
import Derived.WalkSpells
import Derived.WideLaws
import Derived.Test.YtpbembafpnknhaaGreatBNormOnce0
import Derived.Test.YtpbembafpnknhaaGreatBNormOnce1
set_option maxHeartbeats 8000000
set_option maxRecDepth 100000
set_option linter.unusedVariables false
set_option linter.unusedSimpArgs false
set_option linter.unusedSectionVars false
namespace Go.Proofs
open Go.Shelf
def Tryz.cloneStr_ren:Go.Shelf.Ren:=⟨fun|41=>78|n=>n,fun|22=>22|23=>9|4=>4|n=>n,fun|n=>n⟩
theorem Tryz.cloneStr:Go.Proofs.SlLaysE0.n41 Tryz.prog Tryz.cloneStr_ren:={
  mixed:=by kernel_rfl
  f41:=⟨Tryz.f78.name,by decide,Tryz.func78.trans (congrArg some (by kernel_rfl))⟩
  t4:=Tryz.underlying4
  a4:=Tryz.isAgg4
  z4:=Tryz.sizeOf4
  v4:=Tryz.zeroValue4
  t22:=Tryz.underlying22
  a22:=Tryz.isAgg22
  z22:=Tryz.sizeOf22
  v22:=Tryz.zeroValue22 }
def Tryz.cloneOn_ren:Go.Shelf.Ren:=⟨fun|41=>174|n=>n,fun|22=>26|23=>78|4=>4|n=>n,fun|n=>n⟩
theorem Tryz.cloneOn:Go.Proofs.SlLaysE0.n41 Tryz.prog Tryz.cloneOn_ren:={
  mixed:=by kernel_rfl
  f41:=⟨Tryz.f174.name,by decide,Tryz.func174.trans (congrArg some (by kernel_rfl))⟩
  t4:=Tryz.underlying4
  a4:=Tryz.isAgg4
  z4:=Tryz.sizeOf4
  v4:=Tryz.zeroValue4
  t22:=Tryz.underlying26
  a22:=Tryz.isAgg26
  z22:=Tryz.sizeOf26
  v22:=Tryz.zeroValue26 }
def Tryz.cloneIf_ren:Go.Shelf.Ren:=⟨fun|41=>175|n=>n,fun|22=>27|23=>93|4=>4|n=>n,fun|n=>n⟩
theorem Tryz.cloneIf:Go.Proofs.SlLaysE0.n41 Tryz.prog Tryz.cloneIf_ren:={
  mixed:=by kernel_rfl
  f41:=⟨Tryz.f175.name,by decide,Tryz.func175.trans (congrArg some (by kernel_rfl))⟩
  t4:=Tryz.underlying4
  a4:=Tryz.isAgg4
  z4:=Tryz.sizeOf4
  v4:=Tryz.zeroValue4
  t22:=Tryz.underlying27
  a22:=Tryz.isAgg27
  z22:=Tryz.sizeOf27
  v22:=Tryz.zeroValue27 }
def Tryz.sortOn_ren:Go.Shelf.Ren:=⟨fun|6=>176|15=>125|14=>218|28=>172|29=>173|20=>242|21=>243|22=>244|23=>245|24=>246|25=>247|26=>248|27=>249|46=>274|47=>214|48=>215|49=>275|50=>276|57=>284|n=>n,fun|22=>26|24=>78|25=>90|3=>3|39=>145|0=>0|53=>181|55=>183|4=>4|46=>173|45=>172|50=>178|5=>5|9=>9|66=>209|70=>213|76=>234|77=>235|n=>n,fun|n=>n⟩
theorem Tryz.sortOn:Go.Proofs.SlLaysF0.n6 Tryz.prog Tryz.sortOn_ren:={
  mixed:=by kernel_rfl
  f6:=⟨Tryz.f176.name,by decide,Tryz.func176.trans (congrArg some (by kernel_rfl))⟩
  f14:=⟨Tryz.f218.name,by decide,Tryz.func218.trans (congrArg some (by kernel_rfl))⟩
  f15:=Tryz.func125.trans (congrArg some (by kernel_rfl))
  f20:=⟨Tryz.f242.name,by decide,Tryz.func242.trans (congrArg some (by kernel_rfl))⟩
  f21:=⟨Tryz.f243.name,by decide,Tryz.func243.trans (congrArg some (by kernel_rfl))⟩
  f22:=⟨Tryz.f244.name,by decide,Tryz.func244.trans (congrArg some (by kernel_rfl))⟩
  f23:=⟨Tryz.f245.name,by decide,Tryz.func245.trans (congrArg some (by kernel_rfl))⟩
  f24:=⟨Tryz.f246.name,by decide,Tryz.func246.trans (congrArg some (by kernel_rfl))⟩
  f25:=⟨Tryz.f247.name,by decide,Tryz.func247.trans (congrArg some (by kernel_rfl))⟩
  f26:=⟨Tryz.f248.name,by decide,Tryz.func248.trans (congrArg some (by kernel_rfl))⟩
  f27:=⟨Tryz.f249.name,by decide,Tryz.func249.trans (congrArg some (by kernel_rfl))⟩
  f28:=Tryz.func172.trans (congrArg some (by kernel_rfl))
  f29:=Tryz.func173.trans (congrArg some (by kernel_rfl))
  f46:=⟨Tryz.f274.name,by decide,Tryz.func274.trans (congrArg some (by kernel_rfl))⟩
  f47:=Tryz.func214.trans (congrArg some (by kernel_rfl))
  f48:=Tryz.func215.trans (congrArg some (by kernel_rfl))
  f49:=⟨Tryz.f275.name,by decide,Tryz.func275.trans (congrArg some (by kernel_rfl))⟩
  f50:=⟨Tryz.f276.name,by decide,Tryz.func276.trans (congrArg some (by kernel_rfl))⟩
  f57:=⟨Tryz.f284.name,by decide,Tryz.func284.trans (congrArg some (by kernel_rfl))⟩
  t0:=Tryz.underlying0
  a0:=Tryz.isAgg0
  z0:=Tryz.sizeOf0
  v0:=Tryz.zeroValue0
  t3:=Tryz.underlying3
  a3:=Tryz.isAgg3
  z3:=Tryz.sizeOf3
  v3:=Tryz.zeroValue3
  t4:=Tryz.underlying4
  a4:=Tryz.isAgg4
  z4:=Tryz.sizeOf4
  v4:=Tryz.zeroValue4
  t5:=Tryz.underlying5
  a5:=Tryz.isAgg5
  z5:=Tryz.sizeOf5
  v5:=Tryz.zeroValue5
  t9:=Tryz.underlying9
  a9:=Tryz.isAgg9
  z9:=Tryz.sizeOf9
  v9:=Tryz.zeroValue9
  t22:=Tryz.underlying26
  a22:=Tryz.isAgg26
  z22:=Tryz.sizeOf26
  v22:=Tryz.zeroValue26
  t25:=Tryz.underlying90
  a25:=Tryz.isAgg90
  z25:=Tryz.sizeOf90
  v25:=Tryz.zeroValue90
  t39:=Tryz.underlying145
  a39:=Tryz.isAgg145
  z39:=Tryz.sizeOf145
  v39:=Tryz.zeroValue145
  t45:=Tryz.underlying172
  a45:=Tryz.isAgg172
  z45:=Tryz.sizeOf172
  v45:=Tryz.zeroValue172
  t46:=Tryz.underlying173
  a46:=Tryz.isAgg173
  z46:=Tryz.sizeOf173
  v46:=Tryz.zeroValue173
  t50:=Tryz.underlying178
  a50:=Tryz.isAgg178
  z50:=Tryz.sizeOf178
  v50:=Tryz.zeroValue178
  t53:=Tryz.underlying181
  a53:=Tryz.isAgg181
  z53:=Tryz.sizeOf181
  v53:=Tryz.zeroValue181
  t55:=Tryz.underlying183
  a55:=Tryz.isAgg183
  z55:=Tryz.sizeOf183
  v55:=Tryz.zeroValue183
  t66:=Tryz.underlying209
  a66:=Tryz.isAgg209
  z66:=Tryz.sizeOf209
  v66:=Tryz.zeroValue209
  t70:=Tryz.underlying213
  a70:=Tryz.isAgg213
  z70:=Tryz.sizeOf213
  v70:=Tryz.zeroValue213
  t76:=Tryz.underlying234
  a76:=Tryz.isAgg234
  z76:=Tryz.sizeOf234
  v76:=Tryz.zeroValue234
  t77:=Tryz.underlying235
  a77:=Tryz.isAgg235
  z77:=Tryz.sizeOf235
  v77:=Tryz.zeroValue235 }
def Tryz.sortIf_ren:Go.Shelf.Ren:=⟨fun|6=>177|15=>125|14=>219|28=>172|29=>173|20=>250|21=>251|22=>252|23=>253|24=>254|25=>255|26=>256|27=>257|46=>277|47=>214|48=>215|49=>278|50=>279|57=>285|n=>n,fun|22=>27|24=>93|25=>94|3=>3|39=>145|0=>0|53=>181|55=>183|4=>4|46=>173|45=>172|50=>178|5=>5|9=>9|66=>209|70=>213|76=>234|77=>235|n=>n,fun|n=>n⟩
theorem Tryz.sortIf:Go.Proofs.SlLaysF0.n6 Tryz.prog Tryz.sortIf_ren:={
  mixed:=by kernel_rfl
  f6:=⟨Tryz.f177.name,by decide,Tryz.func177.trans (congrArg some (by kernel_rfl))⟩
  f14:=⟨Tryz.f219.name,by decide,Tryz.func219.trans (congrArg some (by kernel_rfl))⟩
  f15:=Tryz.func125.trans (congrArg some (by kernel_rfl))
  f20:=⟨Tryz.f250.name,by decide,Tryz.func250.trans (congrArg some (by kernel_rfl))⟩
  f21:=⟨Tryz.f251.name,by decide,Tryz.func251.trans (congrArg some (by kernel_rfl))⟩
  f22:=⟨Tryz.f252.name,by decide,Tryz.func252.trans (congrArg some (by kernel_rfl))⟩
  f23:=⟨Tryz.f253.name,by decide,Tryz.func253.trans (congrArg some (by kernel_rfl))⟩
  f24:=⟨Tryz.f254.name,by decide,Tryz.func254.trans (congrArg some (by kernel_rfl))⟩
  f25:=⟨Tryz.f255.name,by decide,Tryz.func255.trans (congrArg some (by kernel_rfl))⟩
  f26:=⟨Tryz.f256.name,by decide,Tryz.func256.trans (congrArg some (by kernel_rfl))⟩
  f27:=⟨Tryz.f257.name,by decide,Tryz.func257.trans (congrArg some (by kernel_rfl))⟩
  f28:=Tryz.func172.trans (congrArg some (by kernel_rfl))
  f29:=Tryz.func173.trans (congrArg some (by kernel_rfl))
  f46:=⟨Tryz.f277.name,by decide,Tryz.func277.trans (congrArg some (by kernel_rfl))⟩
  f47:=Tryz.func214.trans (congrArg some (by kernel_rfl))
  f48:=Tryz.func215.trans (congrArg some (by kernel_rfl))
  f49:=⟨Tryz.f278.name,by decide,Tryz.func278.trans (congrArg some (by kernel_rfl))⟩
  f50:=⟨Tryz.f279.name,by decide,Tryz.func279.trans (congrArg some (by kernel_rfl))⟩
  f57:=⟨Tryz.f285.name,by decide,Tryz.func285.trans (congrArg some (by kernel_rfl))⟩
  t0:=Tryz.underlying0
  a0:=Tryz.isAgg0
  z0:=Tryz.sizeOf0
  v0:=Tryz.zeroValue0
  t3:=Tryz.underlying3
  a3:=Tryz.isAgg3
  z3:=Tryz.sizeOf3
  v3:=Tryz.zeroValue3
  t4:=Tryz.underlying4
  a4:=Tryz.isAgg4
  z4:=Tryz.sizeOf4
  v4:=Tryz.zeroValue4
  t5:=Tryz.underlying5
  a5:=Tryz.isAgg5
  z5:=Tryz.sizeOf5
  v5:=Tryz.zeroValue5
  t9:=Tryz.underlying9
  a9:=Tryz.isAgg9
  z9:=Tryz.sizeOf9
  v9:=Tryz.zeroValue9
  t22:=Tryz.underlying27
  a22:=Tryz.isAgg27
  z22:=Tryz.sizeOf27
  v22:=Tryz.zeroValue27
  t25:=Tryz.underlying94
  a25:=Tryz.isAgg94
  z25:=Tryz.sizeOf94
  v25:=Tryz.zeroValue94
  t39:=Tryz.underlying145
  a39:=Tryz.isAgg145
  z39:=Tryz.sizeOf145
  v39:=Tryz.zeroValue145
  t45:=Tryz.underlying172
  a45:=Tryz.isAgg172
  z45:=Tryz.sizeOf172
  v45:=Tryz.zeroValue172
  t46:=Tryz.underlying173
  a46:=Tryz.isAgg173
  z46:=Tryz.sizeOf173
  v46:=Tryz.zeroValue173
  t50:=Tryz.underlying178
  a50:=Tryz.isAgg178
  z50:=Tryz.sizeOf178
  v50:=Tryz.zeroValue178
  t53:=Tryz.underlying181
  a53:=Tryz.isAgg181
  z53:=Tryz.sizeOf181
  v53:=Tryz.zeroValue181
  t55:=Tryz.underlying183
  a55:=Tryz.isAgg183
  z55:=Tryz.sizeOf183
  v55:=Tryz.zeroValue183
  t66:=Tryz.underlying209
  a66:=Tryz.isAgg209
  z66:=Tryz.sizeOf209
  v66:=Tryz.zeroValue209
  t70:=Tryz.underlying213
  a70:=Tryz.isAgg213
  z70:=Tryz.sizeOf213
  v70:=Tryz.zeroValue213
  t76:=Tryz.underlying234
  a76:=Tryz.isAgg234
  z76:=Tryz.sizeOf234
  v76:=Tryz.zeroValue234
  t77:=Tryz.underlying235
  a77:=Tryz.isAgg235
  z77:=Tryz.sizeOf235
  v77:=Tryz.zeroValue235 }
def Tryz.sortSe_ren:Go.Shelf.Ren:=⟨fun|6=>179|15=>125|14=>220|28=>172|29=>173|20=>258|21=>259|22=>260|23=>261|24=>262|25=>263|26=>264|27=>265|46=>280|47=>214|48=>215|49=>281|50=>282|57=>286|n=>n,fun|22=>45|24=>29|25=>31|3=>3|39=>145|0=>0|53=>181|55=>183|4=>4|46=>173|45=>172|50=>178|5=>5|9=>9|66=>209|70=>213|76=>234|77=>235|n=>n,fun|n=>n⟩
theorem Tryz.sortSe:Go.Proofs.SlLaysF0.n6 Tryz.prog Tryz.sortSe_ren:={
  mixed:=by kernel_rfl
  f6:=⟨Tryz.f179.name,by decide,Tryz.func179.trans (congrArg some (by kernel_rfl))⟩
  f14:=⟨Tryz.f220.name,by decide,Tryz.func220.trans (congrArg some (by kernel_rfl))⟩
  f15:=Tryz.func125.trans (congrArg some (by kernel_rfl))
  f20:=⟨Tryz.f258.name,by decide,Tryz.func258.trans (congrArg some (by kernel_rfl))⟩
  f21:=⟨Tryz.f259.name,by decide,Tryz.func259.trans (congrArg some (by kernel_rfl))⟩
  f22:=⟨Tryz.f260.name,by decide,Tryz.func260.trans (congrArg some (by kernel_rfl))⟩
  f23:=⟨Tryz.f261.name,by decide,Tryz.func261.trans (congrArg some (by kernel_rfl))⟩
  f24:=⟨Tryz.f262.name,by decide,Tryz.func262.trans (congrArg some (by kernel_rfl))⟩
  f25:=⟨Tryz.f263.name,by decide,Tryz.func263.trans (congrArg some (by kernel_rfl))⟩
  f26:=⟨Tryz.f264.name,by decide,Tryz.func264.trans (congrArg some (by kernel_rfl))⟩
  f27:=⟨Tryz.f265.name,by decide,Tryz.func265.trans (congrArg some (by kernel_rfl))⟩
  f28:=Tryz.func172.trans (congrArg some (by kernel_rfl))
  f29:=Tryz.func173.trans (congrArg some (by kernel_rfl))
  f46:=⟨Tryz.f280.name,by decide,Tryz.func280.trans (congrArg some (by kernel_rfl))⟩
  f47:=Tryz.func214.trans (congrArg some (by kernel_rfl))
  f48:=Tryz.func215.trans (congrArg some (by kernel_rfl))
  f49:=⟨Tryz.f281.name,by decide,Tryz.func281.trans (congrArg some (by kernel_rfl))⟩
  f50:=⟨Tryz.f282.name,by decide,Tryz.func282.trans (congrArg some (by kernel_rfl))⟩
  f57:=⟨Tryz.f286.name,by decide,Tryz.func286.trans (congrArg some (by kernel_rfl))⟩
  t0:=Tryz.underlying0
  a0:=Tryz.isAgg0
  z0:=Tryz.sizeOf0
  v0:=Tryz.zeroValue0
  t3:=Tryz.underlying3
  a3:=Tryz.isAgg3
  z3:=Tryz.sizeOf3
  v3:=Tryz.zeroValue3
  t4:=Tryz.underlying4
  a4:=Tryz.isAgg4
  z4:=Tryz.sizeOf4
  v4:=Tryz.zeroValue4
  t5:=Tryz.underlying5
  a5:=Tryz.isAgg5
  z5:=Tryz.sizeOf5
  v5:=Tryz.zeroValue5
  t9:=Tryz.underlying9
  a9:=Tryz.isAgg9
  z9:=Tryz.sizeOf9
  v9:=Tryz.zeroValue9
  t22:=Tryz.underlying45
  a22:=Tryz.isAgg45
  z22:=Tryz.sizeOf45
  v22:=Tryz.zeroValue45
  t25:=Tryz.underlying31
  a25:=Tryz.isAgg31
  z25:=Tryz.sizeOf31
  v25:=Tryz.zeroValue31
  t39:=Tryz.underlying145
  a39:=Tryz.isAgg145
  z39:=Tryz.sizeOf145
  v39:=Tryz.zeroValue145
  t45:=Tryz.underlying172
  a45:=Tryz.isAgg172
  z45:=Tryz.sizeOf172
  v45:=Tryz.zeroValue172
  t46:=Tryz.underlying173
  a46:=Tryz.isAgg173
  z46:=Tryz.sizeOf173
  v46:=Tryz.zeroValue173
  t50:=Tryz.underlying178
  a50:=Tryz.isAgg178
  z50:=Tryz.sizeOf178
  v50:=Tryz.zeroValue178
  t53:=Tryz.underlying181
  a53:=Tryz.isAgg181
  z53:=Tryz.sizeOf181
  v53:=Tryz.zeroValue181
  t55:=Tryz.underlying183
  a55:=Tryz.isAgg183
  z55:=Tryz.sizeOf183
  v55:=Tryz.zeroValue183
  t66:=Tryz.underlying209
  a66:=Tryz.isAgg209
  z66:=Tryz.sizeOf209
  v66:=Tryz.zeroValue209
  t70:=Tryz.underlying213
  a70:=Tryz.isAgg213
  z70:=Tryz.sizeOf213
  v70:=Tryz.zeroValue213
  t76:=Tryz.underlying234
  a76:=Tryz.isAgg234
  z76:=Tryz.sizeOf234
  v76:=Tryz.zeroValue234
  t77:=Tryz.underlying235
  a77:=Tryz.isAgg235
  z77:=Tryz.sizeOf235
  v77:=Tryz.zeroValue235 }
def Tryz.sortInt_ren:Go.Shelf.Ren:=⟨fun|6=>128|15=>125|14=>182|28=>172|29=>173|20=>221|21=>222|22=>223|23=>224|24=>225|25=>226|26=>227|27=>228|46=>266|47=>214|48=>215|49=>267|50=>268|57=>283|n=>n,fun|22=>51|24=>3|25=>95|3=>3|39=>145|0=>0|53=>181|55=>183|4=>4|46=>173|45=>172|50=>178|5=>5|9=>9|66=>209|70=>213|76=>234|77=>235|n=>n,fun|n=>n⟩
theorem Tryz.sortInt:Go.Proofs.SlLaysF.n6 Tryz.prog Tryz.sortInt_ren:={
  mixed:=by kernel_rfl
  f6:=⟨Tryz.f128.name,by decide,Tryz.func128.trans (congrArg some (by kernel_rfl))⟩
  f14:=⟨Tryz.f182.name,by decide,Tryz.func182.trans (congrArg some (by kernel_rfl))⟩
  f15:=Tryz.func125.trans (congrArg some (by kernel_rfl))
  f20:=⟨Tryz.f221.name,by decide,Tryz.func221.trans (congrArg some (by kernel_rfl))⟩
  f21:=⟨Tryz.f222.name,by decide,Tryz.func222.trans (congrArg some (by kernel_rfl))⟩
  f22:=⟨Tryz.f223.name,by decide,Tryz.func223.trans (congrArg some (by kernel_rfl))⟩
  f23:=⟨Tryz.f224.name,by decide,Tryz.func224.trans (congrArg some (by kernel_rfl))⟩
  f24:=⟨Tryz.f225.name,by decide,Tryz.func225.trans (congrArg some (by kernel_rfl))⟩
  f25:=⟨Tryz.f226.name,by decide,Tryz.func226.trans (congrArg some (by kernel_rfl))⟩
  f26:=⟨Tryz.f227.name,by decide,Tryz.func227.trans (congrArg some (by kernel_rfl))⟩
  f27:=⟨Tryz.f228.name,by decide,Tryz.func228.trans (congrArg some (by kernel_rfl))⟩
  f28:=Tryz.func172.trans (congrArg some (by kernel_rfl))
  f29:=Tryz.func173.trans (congrArg some (by kernel_rfl))
  f46:=⟨Tryz.f266.name,by decide,Tryz.func266.trans (congrArg some (by kernel_rfl))⟩
  f47:=Tryz.func214.trans (congrArg some (by kernel_rfl))
  f48:=Tryz.func215.trans (congrArg some (by kernel_rfl))
  f49:=⟨Tryz.f267.name,by decide,Tryz.func267.trans (congrArg some (by kernel_rfl))⟩
  f50:=⟨Tryz.f268.name,by decide,Tryz.func268.trans (congrArg some (by kernel_rfl))⟩
  f57:=⟨Tryz.f283.name,by decide,Tryz.func283.trans (congrArg some (by kernel_rfl))⟩
  t0:=Tryz.underlying0
  a0:=Tryz.isAgg0
  z0:=Tryz.sizeOf0
  v0:=Tryz.zeroValue0
  t3:=Tryz.underlying3
  a3:=Tryz.isAgg3
  z3:=Tryz.sizeOf3
  v3:=Tryz.zeroValue3
  t4:=Tryz.underlying4
  a4:=Tryz.isAgg4
  z4:=Tryz.sizeOf4
  v4:=Tryz.zeroValue4
  t5:=Tryz.underlying5
  a5:=Tryz.isAgg5
  z5:=Tryz.sizeOf5
  v5:=Tryz.zeroValue5
  t9:=Tryz.underlying9
  a9:=Tryz.isAgg9
  z9:=Tryz.sizeOf9
  v9:=Tryz.zeroValue9
  t22:=Tryz.underlying51
  a22:=Tryz.isAgg51
  z22:=Tryz.sizeOf51
  v22:=Tryz.zeroValue51
  a24:=Tryz.isAgg3
  z24:=Tryz.sizeOf3
  t25:=Tryz.underlying95
  a25:=Tryz.isAgg95
  z25:=Tryz.sizeOf95
  v25:=Tryz.zeroValue95
  t39:=Tryz.underlying145
  a39:=Tryz.isAgg145
  z39:=Tryz.sizeOf145
  v39:=Tryz.zeroValue145
  t45:=Tryz.underlying172
  a45:=Tryz.isAgg172
  z45:=Tryz.sizeOf172
  v45:=Tryz.zeroValue172
  t46:=Tryz.underlying173
  a46:=Tryz.isAgg173
  z46:=Tryz.sizeOf173
  v46:=Tryz.zeroValue173
  t50:=Tryz.underlying178
  a50:=Tryz.isAgg178
  z50:=Tryz.sizeOf178
  v50:=Tryz.zeroValue178
  t53:=Tryz.underlying181
  a53:=Tryz.isAgg181
  z53:=Tryz.sizeOf181
  v53:=Tryz.zeroValue181
  t55:=Tryz.underlying183
  a55:=Tryz.isAgg183
  z55:=Tryz.sizeOf183
  v55:=Tryz.zeroValue183
  t66:=Tryz.underlying209
  a66:=Tryz.isAgg209
  z66:=Tryz.sizeOf209
  v66:=Tryz.zeroValue209
  t70:=Tryz.underlying213
  a70:=Tryz.isAgg213
  z70:=Tryz.sizeOf213
  v70:=Tryz.zeroValue213
  t76:=Tryz.underlying234
  a76:=Tryz.isAgg234
  z76:=Tryz.sizeOf234
  v76:=Tryz.zeroValue234
  t77:=Tryz.underlying235
  a77:=Tryz.isAgg235
  z77:=Tryz.sizeOf235
  v77:=Tryz.zeroValue235 }
def Tryz.sortStr_ren:Go.Shelf.Ren:=⟨fun|190=>79|125=>125|258=>124|128=>172|129=>173|302=>163|303=>164|304=>165|305=>166|306=>167|307=>168|308=>169|309=>170|310=>171|333=>213|329=>214|330=>215|334=>216|335=>217|336=>159|344=>241|n=>n,fun|31=>22|9=>9|3=>3|46=>145|0=>0|51=>181|53=>183|4=>4|183=>173|182=>172|131=>178|5=>5|218=>209|222=>213|228=>234|229=>235|n=>n,fun|n=>n⟩
theorem Tryz.sortStr:Go.Proofs.Lays.n190 Tryz.prog Tryz.sortStr_ren:={
  mixed:=by kernel_rfl
  f125:=Tryz.func125.trans (congrArg some (by kernel_rfl))
  f128:=Tryz.func172.trans (congrArg some (by kernel_rfl))
  f129:=Tryz.func173.trans (congrArg some (by kernel_rfl))
  f190:=Tryz.func79.trans (congrArg some (by kernel_rfl))
  f258:=Tryz.func124.trans (congrArg some (by kernel_rfl))
  f302:=Tryz.func163.trans (congrArg some (by kernel_rfl))
  f303:=Tryz.func164.trans (congrArg some (by kernel_rfl))
  f304:=Tryz.func165.trans (congrArg some (by kernel_rfl))
  f305:=Tryz.func166.trans (congrArg some (by kernel_rfl))
  f306:=Tryz.func167.trans (congrArg some (by kernel_rfl))
  f307:=Tryz.func168.trans (congrArg some (by kernel_rfl))
  f308:=Tryz.func169.trans (congrArg some (by kernel_rfl))
  f309:=Tryz.func170.trans (congrArg some (by kernel_rfl))
  f310:=Tryz.func171.trans (congrArg some (by kernel_rfl))
  f329:=Tryz.func214.trans (congrArg some (by kernel_rfl))
  f330:=Tryz.func215.trans (congrArg some (by kernel_rfl))
  f333:=Tryz.func213.trans (congrArg some (by kernel_rfl))
  f334:=Tryz.func216.trans (congrArg some (by kernel_rfl))
  f335:=Tryz.func217.trans (congrArg some (by kernel_rfl))
  f336:=Tryz.func159.trans (congrArg some (by kernel_rfl))
  f344:=Tryz.func241.trans (congrArg some (by kernel_rfl))
  t0:=Tryz.underlying0
  a0:=Tryz.isAgg0
  z0:=Tryz.sizeOf0
  v0:=Tryz.zeroValue0
  t3:=Tryz.underlying3
  a3:=Tryz.isAgg3
  z3:=Tryz.sizeOf3
  v3:=Tryz.zeroValue3
  t4:=Tryz.underlying4
  a4:=Tryz.isAgg4
  z4:=Tryz.sizeOf4
  v4:=Tryz.zeroValue4
  t5:=Tryz.underlying5
  a5:=Tryz.isAgg5
  z5:=Tryz.sizeOf5
  v5:=Tryz.zeroValue5
  t9:=Tryz.underlying9
  a9:=Tryz.isAgg9
  z9:=Tryz.sizeOf9
  v9:=Tryz.zeroValue9
  t31:=Tryz.underlying22
  a31:=Tryz.isAgg22
  z31:=Tryz.sizeOf22
  v31:=Tryz.zeroValue22
  t46:=Tryz.underlying145
  a46:=Tryz.isAgg145
  z46:=Tryz.sizeOf145
  v46:=Tryz.zeroValue145
  t51:=Tryz.underlying181
  a51:=Tryz.isAgg181
  z51:=Tryz.sizeOf181
  v51:=Tryz.zeroValue181
  t53:=Tryz.underlying183
  a53:=Tryz.isAgg183
  z53:=Tryz.sizeOf183
  v53:=Tryz.zeroValue183
  t131:=Tryz.underlying178
  a131:=Tryz.isAgg178
  z131:=Tryz.sizeOf178
  v131:=Tryz.zeroValue178
  t182:=Tryz.underlying172
  a182:=Tryz.isAgg172
  z182:=Tryz.sizeOf172
  v182:=Tryz.zeroValue172
  t183:=Tryz.underlying173
  a183:=Tryz.isAgg173
  z183:=Tryz.sizeOf173
  v183:=Tryz.zeroValue173
  t218:=Tryz.underlying209
  a218:=Tryz.isAgg209
  z218:=Tryz.sizeOf209
  v218:=Tryz.zeroValue209
  t222:=Tryz.underlying213
  a222:=Tryz.isAgg213
  z222:=Tryz.sizeOf213
  v222:=Tryz.zeroValue213
  t228:=Tryz.underlying234
  a228:=Tryz.isAgg234
  z228:=Tryz.sizeOf234
  v228:=Tryz.zeroValue234
  t229:=Tryz.underlying235
  a229:=Tryz.isAgg235
  z229:=Tryz.sizeOf235
  v229:=Tryz.zeroValue235 }
end Go.Proofs
namespace Go.Proofs
open Go.Shelf Go.RowKit Go.Lib
theorem Tryz.clone_any{P:Program}{ρ:Ren}(L:SlLaysE0.n41 P ρ)(i0:TypeInfo)(z:Value)(size bytes:Nat)(hi:P.info? (ρ.t 23)=some i0)(hz0:i0.zero=some z)(hz1:i0.size=size)(hz2:i0.bytes=bytes)(hzs:z.cells.size=size)(hsz:0<size)(z23:∀ w,(Go.sizeOf (ρ.t 23)).run P w = .ok size w)(ad:Addr)(n c:Nat)(news:List Value)(w:World)(hl:news.length=n * size)(hn:n≤maxLen)(hbig:n * bytes≤140737488355328)(hc:∀ j u,news[j]? = some u→w.cell? (ad.add j)=some u)(h1:∀ u ∈ news,u.oneCell'=true) :
    Calls P (ρ.f 41) #[.slice (some ad) n c] w fun e w' => ∃ v',e = .returned v'∧w'.ownsRow w.heap.size (ρ.t 23) size v' n news∧Below w.heap.size w w':=by
  have mixed:=L.mixed;have t4:=L.t4;have a4:=L.a4;have z4:=L.z4;have v4:=L.v4;have t22:=L.t22;have a22:=L.a22;have z22:=L.z22;have v22:=L.v22;have q22:∀ (w:World) (a:Option Addr) (n c n' c':Nat),(binOp .eql (ρ.t 22) (.slice a n c) (.slice none n' c')).run P w = .ok (.bool a.isNone) w:=fun w a n c n' c'=>Lib.run_eql_slice_nil w _ _ a n c n' c' L.t22
  have u22:∀ w,Sem.run P (underlying (ρ.t 22)) w = .ok (TypeDesc.slice (ρ.t 23)) w:=run_underlying t22;have A:=Lib.hid hc;clear hc;obtain⟨_,_,FG⟩:=L.f41;go_enter FG,SlBodyN.n41_ntmps ρ;go_wp2_with (at_builtin;refine wpList_append_own _ rfl _ _ (ρ.t 22) rfl w.heap.size (ρ.t 23) i0 z size bytes t22 hi hz0 hz1 hz2 hzs hsz _ _ _ rfl (World.ownsRow_made w #[] 0 (Nat.le_refl _) (Nat.zero_le _) (by simp)) ad n c news rfl ?qc1 ?qc2 ?qc3 ?qc4 ?qc5 ?qc6 ?_)
  case qc1=>exact hl
  case qc2=>exact fun j u hj=>Lib.cell?_alloc_some _ (A.out j u hj)
  case qc3=>exact h1
  case qc4=>rw [Nat.zero_add];exact hn
  case qc5=>rw [Nat.zero_add];exact hbig
  case qc6=>simp
  intro v' w1 hown hgrow _;go_wp2;go_ret;refine⟨v',rfl,by simpa using hown,?_⟩;exact((Below.refl _ w).alloc (Nat.le_refl _) _).grown hgrow (by simp) (by intro k hk;simp [Value.ownBlock] at hk;omega)
end Go.Proofs
namespace Go.Proofs.YtpbembafpnknhaaGreat.Pr
open Go.RowKit Go.Proofs.YtpbembafpnknhaaGreatW.PrintWords Go.Proofs.YtpbembafpnknhaaGreatW.PrintLast Go.Proofs.YtpbembafpnknhaaGreatW.PrintMore
theorem flat_row{α:Type}{d:Kd α}{w:World}{n:Nat}{xs:List α}{ad:Addr}(h:d.C w (some ad) n xs):∃ inner,Reps (d.K w) d.sz xs inner∧∀ j u,inner[j]? = some u→w.cell? (ad.add j)=some u:=ReadsRow.inner_ h
theorem clone_flat{α : Type}{d : Kd α}{e s fn bytes : Nat}{z : Value}{ρ : Go.Shelf.Ren}(L : SlLaysE0.n41 Tryz.prog ρ)(he : ρ.t 23 = e)(hf : ρ.f 41 = fn)(hinfo : (Tryz.prog.info? e).map (fun i => (i.zero, i.size, i.bytes)) = some (some z, s, bytes))(hzs : z.cells.size = s)(hs : 0 < s)(hds : d.sz = s)(z23:∀ w,(Go.sizeOf e).run Tryz.prog w = .ok s w)(hflat:∀ (w w':World) (base:Nat) (ok:Nat→Prop) (x:α) (cs:List Value),d.K w x cs→d.M w' base ok x cs)(A:Option Addr)(c:Nat)(xs:List α)(w:World)(hr:d.C w A xs.length xs)(hbig:xs.length * bytes≤140737488355328) :
    Calls Tryz.prog fn #[.slice A xs.length c] w fun e' w' => ∃ v:Value,e' = .returned v∧Kd.R d e w' w.heap.size (fun _=>True) v xs∧Below w.heap.size w w':=by
  obtain⟨i0,hi,hzz⟩:=Option.map_eq_some_iff.1 hinfo;simp only [Prod.mk.injEq] at hzz;obtain⟨hz0,hz1,hz2⟩:=hzz;subst he;subst hf
  cases A with
  | none =>
    have hn:xs=[]:=by
      rcases Nat.eq_zero_or_pos xs.length with h0|h0
      · exact List.eq_nil_of_length_eq_zero h0
      obtain⟨ad,h1,_⟩:=hr.2.2 h0;cases h1
    subst hn;refine(AnyE.slices_Clone_nil L 0 c w).mono ?_;rintro e w' ⟨rfl,rfl⟩
    exact ⟨_, rfl, Kd.R_nil _ _ _ _ _, Below.refl _ _⟩
  | some ad =>
    obtain⟨inner,hrep,hcell⟩:=flat_row hr;refine(Tryz.clone_any L i0 z s bytes hi hz0 hz1 hz2 hzs hs z23 ad xs.length c inner w (by rw [hrep.1,hds]) hr.2.1 hbig hcell ?_).mono ?_
    · intro u hu
      obtain⟨j,hj,rfl⟩:=List.mem_iff_getElem.1 hu;have hs0:0<d.sz:=by omega
      have hjl:j / d.sz<xs.length:=by
        rw [hrep.1] at hj;exact Nat.div_lt_of_lt_mul (by rwa [Nat.mul_comm])
      have hk:=hrep.2 (j / d.sz) _ (List.getElem?_eq_getElem hjl);refine d.K_one hk _ ?_;rw [List.mem_iff_getElem?];refine⟨j % d.sz,?_⟩;have hm:=Nat.mod_lt j hs0;rw [List.getElem?_take_of_lt hm,List.getElem?_drop,Nat.mul_comm,Nat.div_add_mod];exact List.getElem?_eq_getElem hj
    rintro e w' ⟨v,rfl,hown,hb⟩;exact⟨v,rfl,⟨fun _ _=>trivial,inner,by rw [hds];exact hown,hrep.imp_ (fun x cs hk=>hflat w w' _ _ x cs hk)⟩,hb⟩
end Go.Proofs.YtpbembafpnknhaaGreat.Pr
namespace Go.Proofs.YtpbembafpnknhaaGreat.Pr
open Go.RowKit Sn Go.Proofs.YtpbembafpnknhaaGreatW.PrintWords Go.Proofs.YtpbembafpnknhaaGreatW.PrintLast Go.Proofs.YtpbembafpnknhaaGreatW.PrintMore
open Go.Sort (SWO grow)
theorem swo_of{α:Type}{cf:α→α→Int}(h:IsCmp cf):SWO (ltOf cf) where
  irrefl x:=by unfold ltOf;rw [h.self];simp
  trans x y z h1 h2:=by
    unfold ltOf at *;rw [decide_eq_true_eq] at *;have r1:=h.rng x y;have r2:=h.rng y z;have:=h.tr x y z (by omega) (by omega);omega
  ntrans x y z h1 h2:=by
    unfold ltOf at *;rw [decide_eq_false_iff_not] at *;intro h3;have r3:=h.rng x z;have r1:=h.rng x y;have r2:=h.rng y z;rcases h.trichotomy x y with h4|h4|h4
    · omega
    · subst h4;omega
    have:=h.tr y x z h4 (by omega);omega
theorem mergeSort_sortL{α:Type}{cf:α→α→Int}(h:IsCmp cf)(l:List α):(l.mergeSort fun x y => !(ltOf cf) y x)=sortL cf l:=by
  refine rises_eq h ?_ (sortL_rises h l) ((List.mergeSort_perm l _).trans (sortL_perm l).symm);have hs:=List.pairwise_mergeSort (le:=fun x y => !(ltOf cf) y x) (fun a b c h1 h2=>by
    simp only [Bool.not_eq_true',ltOf,decide_eq_false_iff_not] at *;intro h3;have r3:=h.rng c a;have r1:=h.rng b a;have r2:=h.rng c b;rcases h.trichotomy b a with h4|h4|h4
    · omega
    · subst h4;omega
    · have := h.tr c a b (by omega) h4
      omega) (fun a b=>by
    simp only [ltOf,Bool.or_eq_true,Bool.not_eq_true',decide_eq_false_iff_not];have:=h.anti a b;have:=h.rng a b
    omega) l
  refine hs.imp (fun {a b} hab=>?_);simp only [Bool.not_eq_true',ltOf,decide_eq_false_iff_not] at hab;have:=h.anti a b;omega
theorem flat_inner{α:Type}[Inhabited α]{R:α→List Value→Prop}{enc:α→List Value}{k:Nat}(hk:∀ x,(enc x).length=k){xs:List α}{inner:List Value}(h:Reps R k xs inner)(he:∀ x cs,R x cs→cs=enc x):inner=xs.flatMap enc:=by
  apply List.ext_getElem?;intro t;by_cases ht:t<xs.length * k
  · have hk0 : 0 < k := by
      rcases Nat.eq_zero_or_pos k with h0|h0
      · subst h0;simp at ht
      exact h0
    have hj:t / k<xs.length:=Nat.div_lt_of_lt_mul (by rwa [Nat.mul_comm]);have h1:=he _ _ (h.2 (t / k) _ (List.getElem?_eq_getElem hj));have hm:=Nat.mod_lt t hk0;rw [flat_get hk xs t ht];have h2:inner[t]? = ((inner.drop (t / k * k)).take k)[t % k]?:=by
      rw [List.getElem?_take_of_lt hm,List.getElem?_drop,Nat.mul_comm,Nat.div_add_mod]
    rw [h2,h1,List.getElem?_eq_getElem (by rw [hk];exact hm)];simp [hj,hk,hm]
  rw [List.getElem?_eq_none (by rw [h.1];omega),List.getElem?_eq_none (by rw [flat_length hk];omega)]
theorem reps_flat{α : Type}[Inhabited α]{R : α → List Value → Prop}{enc : α → List Value}{k : Nat}(hk : ∀ x, (enc x).length = k)(xs : List α)(hR : ∀ x, R x (enc x)) : Reps R k xs (xs.flatMap enc) := by
  refine⟨flat_length hk xs,fun j p hj=>?_⟩;have hjl:j<xs.length:=(List.getElem?_eq_some_iff.1 hj).1;have hjp:=(List.getElem?_eq_some_iff.1 hj).2;have:((xs.flatMap enc).drop (j * k)).take k=enc p:=by
    apply List.ext_getElem?;intro t;by_cases ht:t<k
    · have hlt : j * k + t < xs.length * k := by
        have:=Nat.mul_le_mul_right k (show j+1≤xs.length from hjl);rw [Nat.add_mul,Nat.one_mul] at this;omega
      rw [List.getElem?_take_of_lt ht,List.getElem?_drop,flat_get hk xs _ hlt,Nat.mul_comm j k,Nat.mul_add_div (by omega),Nat.div_eq_of_lt ht,Nat.add_zero,Nat.mul_add_mod,Nat.mod_eq_of_lt ht];have e1:xs[j]! = p:=by rw [getElem!_pos xs j hjl];exact hjp
      rw [e1,List.getElem?_eq_getElem (by rw [hk];exact ht),getElem!_pos (enc p) t (by rw [hk];exact ht)]
    rw [List.getElem?_eq_none (by simp;omega),List.getElem?_eq_none (by rw [hk];omega)]
  rw [this];exact hR p
theorem sort_flat{α:Type}[Inhabited α]{d:Kd α}{enc:α→List Value}{e k fn g:Nat}{ρ:Go.Shelf.Ren}(L:SlLaysF0.n6 Tryz.prog ρ)(he:ρ.t 24=e)(hf:ρ.f 6=fn)(aE:∀ w,(isAgg e).run Tryz.prog w = .ok true w)(zE:∀ w,(Go.sizeOf e).run Tryz.prog w = .ok k w)(hds:d.sz=k)(hk:∀ x,(enc x).length=k)(h1:∀ x,∀ v ∈ enc x,v.oneCell'=true)(hM:∀ w base ok x cs,d.M w base ok x cs→cs=enc x)(hM':∀ w base ok x,d.M w base ok x (enc x)){cf:α→α→Int}(hc:IsCmp cf)(eg:∀ args w,(callFunc g args).run Tryz.prog w = .ok (.enter g args) w)(hcall:∀ x y w,Calls Tryz.prog g #[.agg (enc x).toArray,.agg (enc y).toArray] w fun e' w'=>e' = .returned (.int .i64 (cf x y))∧∃ q os,w'=grow (w.drewN q) os)(P_:Nat→Prop)(u:Value)(l:List α)(w0 w:World)(hB:Below w0.heap.size w0 w)(ho:Kd.R d e w w0.heap.size P_ u l)(hsz:l.length<4611686018427387904) :
    Calls Tryz.prog fn #[u,.func (.func g) #[] #[]] w fun e' w'=>e' = .returned (.tuple #[])∧Kd.R d e w' w0.heap.size P_ u (sortL cf l)∧Below w0.heap.size w0 w'∧Kept w w' (fun k_=>P_ k_):=by
  subst he;subst hf;obtain⟨hP,inner,hown,hrep⟩:=ho;rw [hds] at hown hrep;obtain rfl:=flat_inner hk hrep (fun x cs h=>hM _ _ _ x cs h);by_cases h0:l=[]
  · subst h0
    obtain⟨A,c,rfl⟩:=own_slice hown;refine(AnyF.slices_SortFunc_none L A c _ w).mono ?_;rintro e' w' ⟨rfl,rfl⟩;refine⟨rfl,⟨hP,_,by rw [hds];exact hown,?_⟩,hB,Kept.refl _ _⟩;exact⟨by simp [sortL],fun j p hj=>by simp [sortL] at hj⟩
  have hpos:0<l.length:=List.length_pos_iff.2 h0;obtain⟨g',cap,rfl,hb,hlt⟩:=hown.form hpos;have hH:=holdsK_of_own hk rfl hown;have hl:l.toArray.size=l.length:=by simp
  have hcon:=AnyQ.slices_SortFunc_total L k aE zE enc hk h1 cf (swo_of hc) g #[] g' 0 cap l.toArray w eg (fun m os dk _ x y=>hcall x y _) hH hlt (by rw [hl];exact hsz) (fun x y h2 h3=>by
    unfold ltOf at h2 h3;rw [decide_eq_false_iff_not] at h2 h3;rcases hc.trichotomy x y with h4|h4|h4
    · omega
    · exact h4
    omega)
  rw [hl] at hcon;refine hcon.mono ?_;rintro e' w' ⟨rfl,n,os,rfl⟩;have hms:=mergeSort_sortL hc l;have hds':(l.mergeSort fun x y => !(ltOf cf) y x).toArray.size=l.length:=by rw [hms];simpa using (sortL_perm l).length_eq
  obtain⟨hown',hgr,_⟩:=own_sorted (m:=n) (os:=os) hk (d':=(l.mergeSort fun x y => !(ltOf cf) y x).toArray) hds' hown;rw [hms] at hown' hgr ⊢;have hll:(sortL cf l).length=l.length:=(sortL_perm l).length_eq;refine⟨rfl,⟨hP,_,by rw [hds,hll];exact hown',by rw [hds];exact reps_flat hk _ (fun x=>hM' _ _ _ x)⟩,?_,?_⟩
  · exact pw_below_grown hB (some g') (Nat.le_trans hB.size (Nat.le_refl _)) hgr (fun k_ hk_=>by injection hk_ with hk_;rw [← hk_];exact hb)
  exact Kept.of_grown hgr (Kept.refl _ _) (fun k_ hk_=>.inl (hP k_ (by simpa [Value.ownBlock] using hk_)))
theorem own_sorted1{α:Type}[Inhabited α]{enc:α→Value}{w:World}{base e n cap g m:Nat}{xs:List α}{d':Array α}{os:Array Obj}(hd:d'.size=n)(h:w.ownsRow base e 1 (.slice (some ⟨g,0,none⟩) n cap) n (xs.map enc)) :
    (grow (Go.Sort.putRow enc (Go.Sort.ahead w m) g 0 d') os).ownsRow base e 1 (.slice (some ⟨g,0,none⟩) n cap) n (d'.toList.map enc)∧w.grownBy (grow (Go.Sort.putRow enc (Go.Sort.ahead w m) g 0 d') os) (some g):=by
  obtain⟨hlen,h2⟩:=h;rcases h2 with ⟨he,_⟩ | ⟨g',cap',cur,he,hb,hh,hnc,hcm,hcs,htk⟩
  · cases he
  injection he with he1 he2 he3;injection he1 with he1;injection he1 with he1;subst he1;subst he3;have hlt:g<w.heap.size:=(Array.getElem?_eq_some_iff.1 hh).1;have hblk:(grow (Go.Sort.putRow enc (Go.Sort.ahead w m) g 0 d') os).heap[g]? = some (.cells (Go.Sort.putCells enc 0 d' cur) e (0,0)):=by
    show ((w.heap.modify g (Go.Sort.onCells (Go.Sort.putCells enc 0 d')))++os)[g]? = _
    rw [Array.getElem?_append_left (by simpa using hlt),Array.getElem?_modify,if_pos rfl,hh];rfl
  refine⟨⟨by simp [hd],.inr ⟨g,cap,_,rfl,hb,hblk,hnc,hcm,by simp [Go.Sort.putCells,hcs],?_⟩⟩,⟨rfl,rfl,rfl,?_,?_⟩⟩
  · apply List.ext_getElem?
    intro t;rw [Nat.mul_one];by_cases ht:t<n
    · rw [List.getElem?_take_of_lt ht, Array.getElem?_toList]
      simp only [Go.Sort.putCells,Array.getElem?_mapIdx];have hc:cur[t]? = some cur[t]!:=by rw [Array.getElem?_eq_getElem (by omega),getElem!_pos cur t (by omega)]
      rw [hc];simp only [Option.map_some,hd];rw [if_pos ⟨Nat.zero_le _,by omega⟩,Nat.sub_zero,List.getElem?_map,Array.getElem?_toList,Array.getElem?_eq_getElem (by omega),getElem!_pos d' t (by omega)];rfl
    rw [List.getElem?_eq_none (by simp;omega),List.getElem?_eq_none (by simp;omega)]
  · show w.heap.size ≤ (w.heap.modify g _ ++ os).size
    simp
  intro i hi hne
  show (w.heap.modify g _++os)[i]? = _
  rw [Array.getElem?_append_left (by simpa using hi),Array.getElem?_modify,if_neg (fun e=>hne (by rw [e]))]
theorem holds_of_own1{α:Type}[Inhabited α]{enc:α→Value}{w:World}{base e n cap g:Nat}{xs:List α}(_hn:xs.length=n)(h:w.ownsRow base e 1 (.slice (some ⟨g,0,none⟩) n cap) n (xs.map enc)):Go.Sort.Holds enc w g 0 xs.toArray:=by
  intro j hj;simp only [List.size_toArray] at hj;have h1:=h.cells (g:=g) rfl j (enc xs[j]!) (by rw [List.getElem?_map,List.getElem?_eq_getElem hj,getElem!_pos xs j hj];rfl);rw [add_plain] at h1;refine⟨by rw [Nat.zero_add];simpa using h1,?_⟩;rcases h.2 with ⟨he,_⟩ | ⟨g',cap',cur,he,_,hh,_⟩
  · cases he
  injection he with he1;injection he1 with he1;injection he1 with he1;subst he1;simp [World.frozen?,hh]
instance:Inhabited S78:=⟨z78⟩
instance:Inhabited S93:=⟨z93⟩
instance:Inhabited S29:=⟨z29⟩
instance:Inhabited S47:=⟨z47⟩
instance:Inhabited ByteArray:=⟨ByteArray.empty⟩
def enc78(x:S78):List Value:=[.string x.f0,.int .i64 x.f1]
def enc93(x:S93):List Value:=[.string x.f0,.string x.f1,.int .i64 x.f2]
def slices_Clone_string_string.f(l0:List ByteArray):Option (List ByteArray):=if l0.length * 16≤140737488355328 then some l0 else none
theorem slices_Clone_string_string.calls(A0:Option Addr)(c0:Nat)(l0:List ByteArray)(r:List ByteArray)(w:World)(hr0:Kd.C Kd.string w A0 l0.length l0)(_hc0:l0.length≤c0)(h:slices_Clone_string_string.f l0=some r) :
  Calls Tryz.prog 78 #[.slice A0 l0.length c0] w fun e w' => ∃ v0_:Value,e = .returned (v0_)∧Kd.R Kd.string 9 w' w.heap.size (fun _=>True) v0_ r∧Below w.heap.size w w':=by
 unfold slices_Clone_string_string.f at h
 split at h
 ·
  obtain rfl:=Qd h;exact clone_flat Tryz.cloneStr rfl rfl info9 rfl (by decide) rfl Tryz.sizeOf9 (fun _ _ _ _ _ _ h=>h) A0 c0 l0 w hr0 ‹_›
 cases h
def api_On_174.f(l0:List S78):Option (List S78):=if l0.length * 24≤140737488355328 then some l0 else none
theorem api_On_174.calls(A0:Option Addr)(c0:Nat)(l0:List S78)(r:List S78)(w:World)(hr0:Kd.C k78 w A0 l0.length l0)(_hc0:l0.length≤c0)(h:api_On_174.f l0=some r) :
  Calls Tryz.prog 174 #[.slice A0 l0.length c0] w fun e w' => ∃ v0_:Value,e = .returned (v0_)∧Kd.R k78 78 w' w.heap.size (fun _=>True) v0_ r∧Below w.heap.size w w':=by
 unfold api_On_174.f at h
 split at h
 ·
  obtain rfl:=Qd h;exact clone_flat Tryz.cloneOn rfl rfl info78 rfl (by decide) rfl Tryz.sizeOf78 (fun w w' b ok x cs h=>by rw [k78_open h];exact k78_mkM w' b ok x) A0 c0 l0 w hr0 ‹_›
 cases h
def api_Cond_175.f(l0:List S93):Option (List S93):=if l0.length * 40≤140737488355328 then some l0 else none
theorem api_Cond_175.calls(A0:Option Addr)(c0:Nat)(l0:List S93)(r:List S93)(w:World)(hr0:Kd.C k93 w A0 l0.length l0)(_hc0:l0.length≤c0)(h:api_Cond_175.f l0=some r) :
  Calls Tryz.prog 175 #[.slice A0 l0.length c0] w fun e w' => ∃ v0_:Value,e = .returned (v0_)∧Kd.R k93 93 w' w.heap.size (fun _=>True) v0_ r∧Below w.heap.size w w':=by
 unfold api_Cond_175.f at h
 split at h
 ·
  obtain rfl:=Qd h;exact clone_flat Tryz.cloneIf rfl rfl info93 rfl (by decide) rfl Tryz.sizeOf93 (fun w w' b ok x cs h=>by rw [k93_open h];exact k93_mkM w' b ok x) A0 c0 l0 w hr0 ‹_›
 cases h
theorem cmpOn_calls(x y:S78)(w:World):Calls Tryz.prog 66 #[.agg (enc78 x).toArray,.agg (enc78 y).toArray] w fun e w'=>e = .returned (.int .i64 (cmpOn x y))∧∃ q os,w'=grow (w.drewN q) os:=
  (PrD.norm_cmpOn.calls 3 x.f0 x.f1 y.f0 y.f1 (cmpOn x y) w (PrD.cmpOn_f 0 x y)).mono fun _ _ h=>⟨h.1,h.2.grows⟩
theorem cmpIf_calls(x y:S93)(w:World):Calls Tryz.prog 68 #[.agg (enc93 x).toArray,.agg (enc93 y).toArray] w fun e w'=>e = .returned (.int .i64 (cmpIf x y))∧∃ q os,w'=grow (w.drewN q) os:=
  (PrD.norm_cmpIf.calls 4 x.f0 x.f1 x.f2 y.f0 y.f1 y.f2 (cmpIf x y) w (PrD.cmpIf_f 0 x y)).mono fun _ _ h=>⟨h.1,h.2.grows⟩
def slices_SortFunc_cmpOn.f(l0:List S78):Option (List S78):=if l0.length<4611686018427387904 then some (sortL cmpOn l0) else none
theorem slices_SortFunc_cmpOn.calls(P0_:Nat→Prop)(u9000_:Value)(l0:List S78)(r:List S78)(w0 w:World)(hB:Below w0.heap.size w0 w)(ho0:Kd.R k78 78 w w0.heap.size P0_ u9000_ l0)(h:slices_SortFunc_cmpOn.f l0=some r) :
  Calls Tryz.prog 176 #[u9000_,(.func (.func 66) #[] #[])] w fun e w'=>e = .returned (.tuple #[])∧Kd.R k78 78 w' w0.heap.size (fun k_=>(P0_ k_∨w.heap.size≤k_)) u9000_ r∧Below w0.heap.size w0 w'∧Kept w w' (fun k_=>P0_ k_):=by
 unfold slices_SortFunc_cmpOn.f at h
 split at h
 ·
  obtain rfl:=Qd h;refine(sort_flat Tryz.sortOn (enc:=enc78) (e:=78) (k:=2) rfl rfl Tryz.isAgg78 Tryz.sizeOf78 rfl (fun _=>rfl) (fun x v hv=>?_) (fun w b ok x cs h=>k78_openM h) (fun w b ok x=>k78_mkM w b ok x) isCmp_on (enters_of Tryz.func66 (by kernel_rfl) rfl) cmpOn_calls P0_ u9000_ l0 w0 w hB ho0 ‹_›).mono ?_
  ·
   simp only [enc78,List.mem_cons,List.not_mem_nil,or_false] at hv;rcases hv with rfl|rfl <;> rfl
  rintro e w' ⟨rfl,h1,h2,h3⟩;exact⟨rfl,Kd.R_mono h1 (fun _ hk=>.inl hk),h2,h3⟩
 cases h
def slices_SortFunc_cmpIf.f(l0:List S93):Option (List S93):=if l0.length<4611686018427387904 then some (sortL cmpIf l0) else none
theorem slices_SortFunc_cmpIf.calls(P0_:Nat→Prop)(u9000_:Value)(l0:List S93)(r:List S93)(w0 w:World)(hB:Below w0.heap.size w0 w)(ho0:Kd.R k93 93 w w0.heap.size P0_ u9000_ l0)(h:slices_SortFunc_cmpIf.f l0=some r) :
  Calls Tryz.prog 177 #[u9000_,(.func (.func 68) #[] #[])] w fun e w'=>e = .returned (.tuple #[])∧Kd.R k93 93 w' w0.heap.size (fun k_=>(P0_ k_∨w.heap.size≤k_)) u9000_ r∧Below w0.heap.size w0 w'∧Kept w w' (fun k_=>P0_ k_):=by
 unfold slices_SortFunc_cmpIf.f at h
 split at h
 ·
  obtain rfl:=Qd h;refine(sort_flat Tryz.sortIf (enc:=enc93) (e:=93) (k:=3) rfl rfl Tryz.isAgg93 Tryz.sizeOf93 rfl (fun _=>rfl) (fun x v hv=>?_) (fun w b ok x cs h=>k93_openM h) (fun w b ok x=>k93_mkM w b ok x) isCmp_if (enters_of Tryz.func68 (by kernel_rfl) rfl) cmpIf_calls P0_ u9000_ l0 w0 w hB ho0 ‹_›).mono ?_
  ·
   simp only [enc93,List.mem_cons,List.not_mem_nil,or_false] at hv;rcases hv with rfl|rfl|rfl <;> rfl
  rintro e w' ⟨rfl,h1,h2,h3⟩;exact⟨rfl,Kd.R_mono h1 (fun _ hk=>.inl hk),h2,h3⟩
 cases h
theorem merge_bs(l:List ByteArray):(l.map fun b=>b.data.toList).mergeSort (fun x y=>decide (x≤y))=(sortL cmpS l).map fun b=>b.data.toList:=by
  have hl:=sortL_perm (c:=cmpS) l;have hperm:((l.map fun b=>b.data.toList).mergeSort (fun x y=>decide (x≤y))).Perm ((sortL cmpS l).map fun b=>b.data.toList):=(List.mergeSort_perm _ _).trans (hl.map _).symm;refine rises_eq isCmp_bs ?_ ?_ hperm
  · have hs := List.pairwise_mergeSort (le := fun x y : List UInt8 => decide (x ≤ y)) (fun a b c h1 h2 => by
      rw [decide_eq_true_eq] at *;exact List.le_trans h1 h2) (fun a b=>by
      rw [Bool.or_eq_true,decide_eq_true_eq,decide_eq_true_eq];exact List.le_total a b) (l.map fun b=>b.data.toList)
    refine hs.imp (fun {a b} hab=>?_);rw [decide_eq_true_eq] at hab;unfold cmpBs;by_cases h1:a<b
    · rw [if_pos h1];decide
    rw [if_neg h1,if_neg (List.not_lt.2 hab)];decide
  have h2:=sortL_rises isCmp_s l;unfold Rises at h2 ⊢;rw [List.pairwise_map];refine h2.imp (fun {a b} hab=>?_);unfold cmpS at hab
  rwa [ByteArray.toList_eq,ByteArray.toList_eq] at hab
def slices_Sort_string_string.f(l0:List ByteArray):Option (List ByteArray):=if l0.length<4611686018427387904 then some (sortL cmpS l0) else none
theorem slices_Sort_string_string.calls(P0_:Nat→Prop)(u9000_:Value)(l0:List ByteArray)(r:List ByteArray)(w0 w:World)(hB:Below w0.heap.size w0 w)(ho0:Kd.R Kd.string 9 w w0.heap.size P0_ u9000_ l0)(h:slices_Sort_string_string.f l0=some r) :
  Calls Tryz.prog 79 #[u9000_] w fun e w'=>e = .returned (.tuple #[])∧Kd.R Kd.string 9 w' w0.heap.size (fun k_=>(P0_ k_∨w.heap.size≤k_)) u9000_ r∧Below w0.heap.size w0 w'∧Kept w w' (fun k_=>P0_ k_):=by
 unfold slices_Sort_string_string.f at h
 split at h
 ·
  rename_i hsz
  obtain rfl:=Qd h;obtain⟨hP,inner,hown,hrep⟩:=ho0;have e1:inner=l0.map Value.string:=by
   have:=flat_inner (enc:=fun x:ByteArray=>[Value.string x]) (k:=1) (fun _=>rfl) hrep (fun x cs h=>h);rw [this];exact flatMap_singles (fun _ _=>rfl)
  subst e1;by_cases h0:l0=[]
  ·
   subst h0;obtain⟨A,c,rfl⟩:=own_slice hown;refine(Any.slices_Sort_string_none Tryz.sortStr A c w).mono ?_;rintro e' w' ⟨rfl,rfl⟩;refine⟨rfl,⟨fun k_ hk_=>.inl (hP k_ hk_),_,hown,?_⟩,hB,Kept.refl _ _⟩;exact⟨by simp [sortL],fun j p hj=>by simp [sortL] at hj⟩
  have hpos:0<l0.length:=List.length_pos_iff.2 h0;obtain⟨g',cap,rfl,hb,hlt⟩:=hown.form hpos;have hmap:l0.map Value.string=(l0.map fun b=>b.data.toList).map encStr:=by
   rw [List.map_map];rfl
  have hown2:=hown;rw [hmap] at hown2;have hH:=holds_of_own1 (enc:=encStr) (xs:=l0.map fun b=>b.data.toList) (by simp) hown2;have hcon:=Any.slices_Sort_string Tryz.sortStr g' 0 cap (l0.map fun b=>b.data.toList) w hH hlt (by simpa using hsz);rw [List.length_map] at hcon;refine hcon.mono ?_;rintro e' w' ⟨rfl,n,os,rfl⟩;rw [merge_bs];have hll:(sortL cmpS l0).length=l0.length:=(sortL_perm l0).length_eq;obtain⟨hown',hgr⟩:=own_sorted1 (m:=n) (os:=os) (enc:=encStr) (d':=((sortL cmpS l0).map fun b=>b.data.toList).toArray) (by simp [hll]) hown2;have hmap':((sortL cmpS l0).map fun b=>b.data.toList).toArray.toList.map encStr=(sortL cmpS l0).flatMap fun x=>[Value.string x]:=by
   rw [flatMap_singles (f:=Value.string) (fun _ _=>rfl)];simp only [List.map_map];rfl
  rw [hmap'] at hown';refine⟨rfl,⟨fun k_ hk_=>.inl (hP k_ hk_),_,by rw [hll];exact hown',reps_flat (enc:=fun x:ByteArray=>[Value.string x]) (k:=1) (fun _=>rfl) _ (fun x=>rfl)⟩,?_,?_⟩
  · exact pw_below_grown hB (some g') (Nat.le_trans hB.size (Nat.le_refl _)) hgr (fun k_ hk_=>by injection hk_ with hk_;rw [← hk_];exact hb)
  exact Kept.of_grown hgr (Kept.refl _ _) (fun k_ hk_=>.inl (hP k_ (by simpa [Value.ownBlock] using hk_)))
 cases h
end Go.Proofs.YtpbembafpnknhaaGreat.Pr
namespace Go.Proofs.YtpbembafpnknhaaGreat.Pr
open Go.RowKit Go.Proofs.YtpbembafpnknhaaGreatW.PrintWords Go.Proofs.YtpbembafpnknhaaGreatW.PrintLast Go.Proofs.YtpbembafpnknhaaGreatW.PrintMore
attribute [local go_sem] max2_int min2_int max_two min_two max_three min_three max_four min_four
theorem eqA93(d:Nat)(w:World)(x0 y0:ByteArray)(x1 y1:ByteArray)(x2 y2:Int) :
    (Op.equalIn (d+2) 93 (.agg #[.string x0,.string x1,.int .i64 x2]) (.agg #[.string y0,.string y1,.int .i64 y2])).run Tryz.prog w = .ok (x0.toList == y0.toList&&(x1.toList == y1.toList&&(x2 == y2))) w:=by
  refine eqA_of Tryz.underlying93 (by kernel_rfl) ?_;refine eqf_cons (by rfl) (by go_simp;rfl) (by go_simp;rfl) (by go_simp) ?_;refine eqf_cons (by rfl) (by go_simp;rfl) (by go_simp;rfl) (by go_simp) ?_;exact eqf_last (by rfl) (by go_simp;rfl) (by go_simp;rfl) (by go_simp)
end Go.Proofs.YtpbembafpnknhaaGreat.Pr
namespace Go.Proofs.YtpbembafpnknhaaGreat.Pr
open Go.RowKit Sn Go.Proofs.YtpbembafpnknhaaGreatW.PrintWords Go.Proofs.YtpbembafpnknhaaGreatW.PrintLast Go.Proofs.YtpbembafpnknhaaGreatW.PrintMore
theorem run_clear_slice{P:Program}{W:World}{T e:Nat}{z:Value}{g off n c:Nat}{zs:List Value}(hT:P.underlying T=some (.slice e))(hz:∀ w,(zeroValue e).run P w = .ok z w)(hn:0<n)(hzs:(Builtin.zeroCells z.cells n).toList=zs)(hcell:∀ j,j<zs.length→(W.cell? ⟨g,off+j,none⟩).isSome=true)(hfr:∀ j,j<zs.length→W.frozen? ⟨g,off+j,none⟩=false)(h1:∀ v ∈ zs,v.oneCell'=true) :
    Sem.run P (Builtin.clear_ #[T] 0 #[.slice (some ⟨g,off,none⟩) n c]) W = .ok (.tuple #[]) (W.setCells g off zs):=by
  have hs:=run_storeCells_cells (P:=P) g off zs 0 W (by simpa using hcell) (by simpa using hfr) h1;obtain⟨m,rfl⟩:∃ m,n=m+1:=⟨n - 1,by omega⟩;subst hzs;unfold Builtin.clear_;have hu:=fun w=>run_underlying (P:=P) (w:=w) hT
  simp [hu,hz,hs]
theorem setCells_block(g:Nat)(e:TypeId)(fr:Nat × Nat):∀ (vs:List Value) (o:Nat) (w:World) (cur:Array Value),w.heap[g]? = some (.cells cur e fr) →
    ∃ cur', (w.setCells g o vs).heap[g]? = some (.cells cur' e fr) ∧ cur'.size = cur.size ∧ ∀ t, t < o → cur'[t]? = cur[t]?
  | [], _, _, cur, h => ⟨cur, h, rfl, fun _ _ => rfl⟩
  | v :: r, o, w, cur, h => by
    have h2:(w.setCell ⟨g,o,none⟩ v).heap[g]? = some (.cells (cur.setIfInBounds o v) e fr):=by
      show (w.heap.modify g _)[g]? = _
      rw [Array.getElem?_modify,if_pos rfl,h];rfl
    obtain⟨cur',h3,h4,h5⟩:=setCells_block g e fr r (o+1) _ _ h2;refine⟨cur',h3,by rw [h4];simp,fun t ht=>?_⟩;rw [h5 t (by omega),Array.getElem?_setIfInBounds_ne (by omega)]
theorem grown_setCells(w:World)(g:Nat):∀ (vs:List Value) (o:Nat),w.grownBy (w.setCells g o vs) (some g):=fun vs o =>
  ⟨World.os_setCells w g o vs,by
    induction vs generalizing w o with
    | nil => rfl
    | cons v r ih=>exact ih (w.setCell ⟨g,o,none⟩ v) (o+1),World.output_setCells w g o vs,by
    induction vs generalizing w o with
    | nil => exact Nat.le_refl _
    | cons v r ih=>exact Nat.le_trans (by simp [World.setCell]) (ih (w.setCell ⟨g,o,none⟩ v) (o+1)),fun i hi hne=>World.heap_setCells_other w g o vs hi (fun e=>hne (by rw [e]))⟩
theorem own_cut{w:World}{base e k n n' cap g o:Nat}{inner vs:List Value}(h:w.ownsRow base e k (.slice (some ⟨g,0,none⟩) n cap) n inner)(hn:n'≤n)(ho:n' * k≤o) :
    (w.setCells g o vs).ownsRow base e k (.slice (some ⟨g,0,none⟩) n' cap) n' (inner.take (n' * k)):=by
  obtain⟨hlen,h2⟩:=h;rcases h2 with ⟨he,_⟩ | ⟨g',cap',cur,he,hb,hh,hnc,hcm,hcs,htk⟩
  · cases he
  injection he with he1 he2 he3;injection he1 with he1;injection he1 with he1;subst he1;subst he3;obtain⟨cur',h3,h4,h5⟩:=setCells_block g e (0,0) vs o w cur hh;have hle:n' * k≤n * k:=Nat.mul_le_mul_right k hn;refine⟨by rw [List.length_take];omega,.inr ⟨g,cap,cur',rfl,hb,h3,by omega,hcm,by rw [h4];exact hcs,?_⟩⟩;rw [← htk,List.take_take,Nat.min_eq_left hle];apply List.ext_getElem?;intro t;by_cases ht:t<n' * k
  · rw [List.getElem?_take_of_lt ht, List.getElem?_take_of_lt ht, Array.getElem?_toList, Array.getElem?_toList]
    exact h5 t (by omega)
  rw [List.getElem?_eq_none (by rw [List.length_take];omega),List.getElem?_eq_none (by rw [List.length_take];omega)]
def compactFrom{α:Type}(eq:α→α→Bool)(x:α):List α→List α
  | [] => [x]
  | y::r=>if eq y x then compactFrom eq x r else x::compactFrom eq y r
def compactL{α:Type}(eq:α→α→Bool):List α→List α
  | [] => []
  | x::r=>compactFrom eq x r
def eqIf(y x:S93):Bool:=y.f0.toList == x.f0.toList&&(y.f1.toList == x.f1.toList&&(y.f2 == x.f2))
theorem eqIf_iff{y x:S93}:eqIf y x=true↔y=x:=by
  unfold eqIf;simp only [Bool.and_eq_true,beq_iff_eq];refine⟨fun ⟨h1,h2,h3⟩=>?_,fun h=>by rw [h];exact⟨rfl,rfl,rfl⟩⟩;have g1:=bs_inj h1;have g2:=bs_inj h2;clear h1 h2;cases y;cases x;simp only at g1 g2 h3;subst g1;subst g2;subst h3;rfl
attribute [local go_sem high] eqA93
theorem compact_short(A:Option Addr)(n cap:Nat)(w:World)(hn:n<2):Calls Tryz.prog 178 #[.slice A n cap] w fun e w'=>e = .returned (.slice A n cap)∧w=w':=by
  have h2:(n:Int)<2:=by omega
  go_enter Tryz.func178,Tryz.ntmps178;go_wp2;go_ret;exact⟨rfl,rfl⟩
theorem compact_same(x y:S93)(g cap:Nat)(w:World)(hcap:2≤cap)(hm:cap≤9223372036854775807)(c0:w.cell? ⟨g,0,none⟩=some (.string x.f0))(c1:w.cell? ⟨g,1,none⟩=some (.string x.f1))(c2:w.cell? ⟨g,2,none⟩=some (.int .i64 x.f2))(c3:w.cell? ⟨g,3,none⟩=some (.string y.f0))(c4:w.cell? ⟨g,4,none⟩=some (.string y.f1))(c5:w.cell? ⟨g,5,none⟩=some (.int .i64 y.f2))(f3:w.frozen? ⟨g,3,none⟩=false)(f4:w.frozen? ⟨g,4,none⟩=false)(f5:w.frozen? ⟨g,5,none⟩=false)(he:(y.f0.toList == x.f0.toList&&(y.f1.toList == x.f1.toList&&(y.f2 == x.f2)))=true) :
    Calls Tryz.prog 178 #[.slice (some ⟨g,0,none⟩) 2 cap] w fun e w'=>e = .returned (.slice (some ⟨g,0,none⟩) 1 cap)∧∃ nq,w'=(w.drewN nq).setCells g 3 [.string ⟨#[]⟩,.string ⟨#[]⟩,.int .i64 0]:=by
  have hcl:∀ nq c,Sem.run Tryz.prog (Builtin.clear_ #[27] 0 #[.slice (some ⟨g,3,none⟩) 1 c]) (w.drewN nq) = .ok (.tuple #[]) ((w.drewN nq).setCells g 3 [.string ⟨#[]⟩,.string ⟨#[]⟩,.int .i64 0]):=fun nq c =>
    run_clear_slice (z:=.agg #[.string ⟨#[]⟩,.string ⟨#[]⟩,.int .i64 0]) (n:=1) Tryz.underlying27 Tryz.zeroValue93 (by decide) (by kernel_rfl) (fun j hj=>by
      have hj:j<3:=hj
      match j, hj with
      | 0, _ => simp [c3]
      | 1, _ => simp [c4]
      | 2,_=>simp [c5]) (fun j hj=>by
      have hj:j<3:=hj
      match j, hj with
      | 0, _ => simpa using f3
      | 1, _ => simpa using f4
      | 2,_=>simpa using f5) (fun v hv=>by
      have hv:v ∈ [Value.string ⟨#[]⟩,Value.string ⟨#[]⟩,Value.int .i64 0]:=hv;simp only [List.mem_cons,List.not_mem_nil,or_false] at hv;rcases hv with rfl|rfl|rfl <;> rfl)
  clear f3 f4 f5;go_enter Tryz.func178,Tryz.ntmps178;go_wp2;refine wp_loop_rounds 2 ?_;rw [rounds_succ];go_wp2;go_quiet (fail)
  go_wp2;refine wp_loop_rounds 1 ?_;rw [rounds_succ];go_wp2;go_ret;exact⟨rfl,_,rfl⟩
theorem compact_other(x y:S93)(g cap:Nat)(w:World)(c0:w.cell? ⟨g,0,none⟩=some (.string x.f0))(c1:w.cell? ⟨g,1,none⟩=some (.string x.f1))(c2:w.cell? ⟨g,2,none⟩=some (.int .i64 x.f2))(c3:w.cell? ⟨g,3,none⟩=some (.string y.f0))(c4:w.cell? ⟨g,4,none⟩=some (.string y.f1))(c5:w.cell? ⟨g,5,none⟩=some (.int .i64 y.f2))(he:(y.f0.toList == x.f0.toList&&(y.f1.toList == x.f1.toList&&(y.f2 == x.f2)))=false) :
    Calls Tryz.prog 178 #[.slice (some ⟨g,0,none⟩) 2 cap] w fun e w'=>e = .returned (.slice (some ⟨g,0,none⟩) 2 cap)∧∃ nq,w'=w.drewN nq:=by
  go_enter Tryz.func178,Tryz.ntmps178;go_wp2;refine wp_loop_rounds 2 ?_;rw [rounds_succ];go_wp2;go_quiet (fail)
  go_wp2;rw [rounds_succ];go_wp2;go_ret;exact⟨rfl,_,rfl⟩
def api_Cond_178.f(l0:List S93):Option (List S93):=if l0.length≤2 then some (compactL eqIf l0) else none
theorem api_Cond_178.calls(P0_:Nat→Prop)(u9000_:Value)(l0:List S93)(r:List S93)(w0 w:World)(hB:Below w0.heap.size w0 w)(ho0:Kd.R k93 93 w w0.heap.size P0_ u9000_ l0)(h:api_Cond_178.f l0=some r) :
  Calls Tryz.prog 178 #[u9000_] w fun e w' => ∃ v0_:Value,e = .returned (v0_)∧Kd.R k93 93 w' w0.heap.size (fun k_=>(P0_ k_∨w.heap.size≤k_)) v0_ r∧Below w0.heap.size w0 w'∧Kept w w' (fun k_=>P0_ k_):=by
 unfold api_Cond_178.f at h
 split at h
 ·
  rename_i hsz
  obtain rfl:=Qd h;obtain⟨hP,inner,hown,hrep⟩:=ho0;obtain rfl:=flat_inner (enc:=enc93) (k:=3) (fun _=>rfl) hrep (fun x cs h=>k93_openM h);by_cases h2:l0.length<2
  ·
   obtain⟨A,c,rfl⟩:=own_slice hown;refine(compact_short A l0.length c w h2).mono ?_;rintro e' w' ⟨rfl,rfl⟩;have hc:compactL eqIf l0=l0:=by
    match l0, h2 with
    | [], _ => rfl
    | [x],_=>rfl
   rw [hc];exact⟨_,rfl,⟨fun k_ hk_=>.inl (hP k_ hk_),_,hown,reps_flat (enc:=enc93) (k:=3) (fun _=>rfl) _ (fun x=>k93_mkM _ _ _ x)⟩,hB,Kept.refl _ _⟩
  obtain⟨x,y,rfl⟩:∃ x y,l0=[x,y]:=by
   match l0, hsz, h2 with
   | [x, y], _, _ => exact ⟨x, y, rfl⟩
   | [], _, h2 => exact absurd (by simp) h2
   | [_], _, h2 => exact absurd (by simp) h2
   | _::_::_::_,hsz,_=>exact absurd hsz (by simp)
  obtain⟨g',cap,rfl,hb,hlt⟩:=hown.form (by simp);have hle:=own_le hown;have hcells:=fun j u=>hown.cells (g:=g') rfl j u
  simp only [add_plain] at hcells;have hfr:∀ j,w.frozen? ⟨g',j,none⟩=false:=by
   intro j;obtain⟨cells,hcb⟩:=own_typed hown g' (by simp [Value.ownBlock]);simp [World.frozen?,hcb]
  have hcm:cap≤9223372036854775807:=by
   rcases hown.2 with ⟨he,_⟩ | ⟨_,_,_,he,_,_,_,hcm,_⟩
   · cases he
   injection he with _ _ he3;subst he3;exact hcm
  by_cases he:eqIf y x=true
  ·
   refine(compact_same x y g' cap w hle hcm (hcells 0 _ rfl) (hcells 1 _ rfl) (hcells 2 _ rfl) (hcells 3 _ rfl) (hcells 4 _ rfl) (hcells 5 _ rfl) (hfr _) (hfr _) (hfr _) he).mono ?_;rintro e' w' ⟨rfl,nq,rfl⟩;have hr:compactL eqIf [x,y]=[x]:=by simp [compactL,compactFrom,he]
   rw [hr];have hg:=grown_setCells (w.drewN nq) g' [.string ⟨#[]⟩,.string ⟨#[]⟩,.int .i64 0] 3;refine⟨_,rfl,⟨fun k_ hk_=>.inl (hP k_ hk_),_,own_cut (n':=1) (k:=3) (o:=3) (pw_own_drewN hown nq) (by simp) (by decide),?_⟩,?_,?_⟩
   · exact reps_flat (enc:=enc93) (k:=3) (fun _=>rfl) [x] (fun x=>k93_mkM _ _ _ x)
   · exact pw_below_grown (pw_below_drewN hB nq) (some g') hB.size hg (fun k_ hk_=>by injection hk_ with hk_;rw [← hk_];exact hb)
   exact Kept.of_grown hg ((Kept.refl w _).drewN nq) (fun k_ hk_=>.inl (hP k_ (by simpa [Value.ownBlock] using hk_)))
  have he:eqIf y x=false:=by simpa using he
  refine(compact_other x y g' cap w (hcells 0 _ rfl) (hcells 1 _ rfl) (hcells 2 _ rfl) (hcells 3 _ rfl) (hcells 4 _ rfl) (hcells 5 _ rfl) he).mono ?_;rintro e' w' ⟨rfl,nq,rfl⟩;have hr:compactL eqIf [x,y]=[x,y]:=by simp [compactL,compactFrom,he]
  rw [hr];exact⟨_,rfl,⟨fun k_ hk_=>.inl (hP k_ hk_),_,pw_own_drewN hown nq,reps_flat (enc:=enc93) (k:=3) (fun _=>rfl) _ (fun x=>k93_mkM _ _ _ x)⟩,pw_below_drewN hB nq,(Kept.refl w _).drewN nq⟩
 cases h
open Go.Sort (SWO grow PermIn SortedIn)
theorem flat_chunk{α:Type}[Inhabited α]{enc:α→List Value}{k:Nat}(hk:∀ x,(enc x).length=k)(xs:List α)(j:Nat)(hj:j<xs.length):((xs.flatMap enc).drop (j * k)).take k=enc xs[j]:=by
  apply List.ext_getElem?;intro t;by_cases ht:t<k
  · have hlt : j * k + t < xs.length * k := by
      have:=Nat.mul_le_mul_right k (show j+1≤xs.length from hj);rw [Nat.add_mul,Nat.one_mul] at this;omega
    rw [List.getElem?_take_of_lt ht,List.getElem?_drop,flat_get hk xs _ hlt,Nat.mul_comm j k,Nat.mul_add_div (by omega),Nat.div_eq_of_lt ht,Nat.add_zero,Nat.mul_add_mod,Nat.mod_eq_of_lt ht];have e1:xs[j]! = xs[j]:=getElem!_pos xs j hj;rw [e1,List.getElem?_eq_getElem (by rw [hk];exact ht),getElem!_pos (enc xs[j]) t (by rw [hk];exact ht)]
  rw [List.getElem?_eq_none (by simp;omega),List.getElem?_eq_none (by rw [hk];omega)]
theorem reps_flat_at{α β:Type}[Inhabited α]{R:β→List Value→Prop}{enc:α→List Value}{k:Nat}(hk:∀ x,(enc x).length=k)(xs:List α)(zs:List β)(hl:zs.length=xs.length)(hR:∀ (j:Nat) (h:j<xs.length) (z:β),zs[j]? = some z→R z (enc xs[j])):Reps R k zs (xs.flatMap enc):=by
  refine⟨by rw [flat_length hk,hl],fun j z hz=>?_⟩;have hj:j<xs.length:=by rw [← hl];exact(List.getElem?_eq_some_iff.1 hz).1
  rw [flat_chunk hk xs j hj];exact hR j hj z hz
theorem packs{β:Type}{R:β→List Value→Prop}{k:Nat}:∀ (zs:List β) (inner:List Value),Reps R k zs inner→∃ ps:List { p:β × List Value // R p.1 p.2 },ps.map (fun p=>p.1.1)=zs∧ps.flatMap (fun p=>p.1.2)=inner
  | [], inner, h => ⟨[], rfl, by
    have:=h.1;simp at this
    exact (List.flatMap_nil).trans this.symm⟩
  | z :: zs, inner, h => by
    have h0:=h.2 0 z rfl;rw [Nat.zero_mul,List.drop_zero] at h0;have ht:Reps R k zs (inner.drop k):=by
      refine⟨by rw [List.length_drop,h.1,List.length_cons,Nat.add_mul,Nat.one_mul,Nat.add_sub_cancel],fun j p hj=>?_⟩;have:=h.2 (j+1) p (by simpa using hj);rw [List.drop_drop]
      rwa [Nat.add_mul,Nat.one_mul,Nat.add_comm] at this
    obtain⟨ps,h1,h2⟩:=packs zs _ ht;refine⟨⟨(z,inner.take k),h0⟩ :: ps,by rw [List.map_cons,h1],?_⟩;rw [List.flatMap_cons,h2];exact List.take_append_drop k inner
section
variable{α : Type}[Inhabited α]{enc : α → List Value}{val : α → S29}{oka : α → Nat → Prop}{w : World}{base g n cap : Nat}
theorem cmpSe_lays(hM:∀ x:α,k29.M w base (oka x) (val x) (enc x))(hng:∀ x k,oka x k→k≠g){ps:List α}(hk:∀ x,(enc x).length=2)(hpl:ps.length=n)(hown:w.ownsRow base 29 2 (.slice (some ⟨g,0,none⟩) n cap) n (ps.flatMap enc)) :
    CmpLays Tryz.prog 32 #[] enc 2 (fun p q=>cmpSe (val p) (val q)) g 0 ps.toArray.size w:=by
  intro m os dk hdk p q;have hdk':dk.size=n:=by rw [hdk];simpa using hpl
  have hmv:∀ x k,oka x k→k<w.heap.size→(sortWorldK enc 2 w g 0 m dk os).heap[k]? = w.heap[k]?:=fun x k hk' hkl =>
    (own_sorted (m:=m) (os:=os) hk (d':=dk) hdk' hown).2.1.block k hkl (fun e=>hng x k hk' (Qd e))
  have hKp:=k29.K_of_M (Kd.M_step (hM p) (fun k hk' hkl=>hmv p k hk' hkl));have hKq:=k29.K_of_M (Kd.M_step (hM q) (fun k hk' hkl=>hmv q k hk' hkl));generalize sortWorldK enc 2 w g 0 m dk os=W at hKp hKq;obtain⟨A0,c0,A1,c1,e1,l0,r0,l1,r1⟩:=k29_open hKp;obtain⟨B0,d0,B1,d1,e2,m0,s0,m1,s1⟩:=k29_open hKq;rw [e1,e2];have hc:=(PrD.norm_CmpSentry.calls ((val p).f0.length+(val p).f1.length+9) A0 c0 (val p).f0 A1 c1 (val p).f1 B0 d0 (val q).f0 B1 d1 (val q).f1 (cmpSe (val p) (val q)) _ r0 l0 r1 l1 s0 m0 s1 m1 (PrD.cmpSe_f _ _ _ r0.2.1 r1.2.1 (Nat.le_refl _)));refine hc.mono ?_;rintro e' w' ⟨rfl,hd⟩;exact⟨rfl,hd.grows⟩
omit [Inhabited α] in
theorem swo_val:SWO (ltOf fun p q:α=>cmpSe (val p) (val q)):=by
  have h:=swo_of isCmp_se;exact⟨fun x=>h.irrefl _,fun x y z=>h.trans _ _ _,fun x y z=>h.ntrans _ _ _⟩
theorem sortSe_core(hM:∀ x:α,k29.M w base (oka x) (val x) (enc x))(hng:∀ x k,oka x k→k≠g){ps:List α}(hpl:ps.length=n)(hown:w.ownsRow base 29 2 (.slice (some ⟨g,0,none⟩) n cap) n (ps.flatMap enc))(hlt:g<w.heap.size)(hsz:n<4611686018427387904) :
    Calls Tryz.prog 179 #[.slice (some ⟨g,0,none⟩) n cap,.func (.func 32) #[] #[]] w fun e w'=>e = .returned (.tuple #[])∧∃ d:List α,d.Perm ps∧d.map val=sortL cmpSe (ps.map val) ∧
      w'.ownsRow base 29 2 (.slice (some ⟨g,0,none⟩) n cap) n (d.flatMap enc)∧w.grownBy w' (some g):=by
  have hk:∀ x:α,(enc x).length=2:=fun x=>k29.K_len (k29.K_of_M (hM x))
  have h1:∀ x:α,∀ v ∈ enc x,v.oneCell'=true:=fun x=>k29.K_one (k29.K_of_M (hM x))
  have hcon:=AnyQ.slices_SortFunc Tryz.sortSe 2 Tryz.isAgg29 Tryz.sizeOf29 enc hk h1 (fun p q=>cmpSe (val p) (val q)) swo_val 32 #[] g 0 cap ps.toArray w (enters_of Tryz.func32 (by kernel_rfl) rfl)
    (cmpSe_lays hM hng hk hpl hown) (holdsK_of_own hk hpl hown) hlt (by simpa [hpl] using hsz)
  have hsz':ps.toArray.size=n:=by simpa using hpl
  rw [hsz'] at hcon;refine hcon.mono ?_;rintro e' w' ⟨rfl,d',n',os,hperm,hsorted,rfl⟩;have hds:d'.size=n:=by rw [hperm.1];exact hsz'
  have hpl':d'.toList.Perm ps:=by
    have h3:=hperm.2.2;have e1:d'.extract 0 n=d':=by rw [← hds];exact Array.extract_size
    have e2:ps.toArray.extract 0 n=ps.toArray:=by rw [← hsz'];exact Array.extract_size
    first
      | (rw [e1, e2] at h3; exact h3)
      | (simp only [Nat.zero_add] at h3;rw [e1,e2] at h3;exact h3)
  obtain⟨hown',hgr,_⟩:=own_sorted (m:=n') (os:=os) hk (d':=d') hds hown;refine⟨rfl,d'.toList,hpl',?_,hown',hgr⟩;refine rises_eq isCmp_se ?_ (sortL_rises isCmp_se _) ((hpl'.map val).trans (sortL_perm _).symm);unfold Rises;rw [List.pairwise_map,List.pairwise_iff_getElem];intro i j hi hj hij;have h3:=hsorted i j (Nat.zero_le _) hij (by rw [← hds];simpa using hj);have hi':i<d'.size:=by simpa using hi
  have hj':j<d'.size:=by simpa using hj
  rw [getElem!_pos d' i hi',getElem!_pos d' j hj'] at h3;unfold ltOf at h3;rw [decide_eq_false_iff_not] at h3;simp only [Array.getElem_toList];have h3:¬ cmpSe (val d'[j]) (val d'[i])<0:=h3;intro h4;have:=isCmp_se.gt.1 h4;omega
end
theorem ownBlock_row(g n cap:Nat):(Value.slice (some ⟨g,0,none⟩) n cap).ownBlock=some g:=rfl
theorem sortSe_calls{base:Nat}{ok:Nat→Prop}{v:Value}{xs:List S29}{w:World}(hS:Kd.S k29 29 w base ok v xs)(hsz:xs.length<4611686018427387904) :
    Calls Tryz.prog 179 #[v,.func (.func 32) #[] #[]] w fun e w'=>e = .returned (.tuple #[])∧Kd.S k29 29 w' base ok v (sortL cmpSe xs)∧w.grownBy w' v.ownBlock:=by
  by_cases h0:xs=[]
  · subst h0
    obtain⟨A,c,rfl⟩:=Kd.S_slice hS;refine(AnyF.slices_SortFunc_none Tryz.sortSe A c _ w).mono ?_;rintro e' w' ⟨rfl,rfl⟩;exact⟨rfl,hS,World.grownBy.refl _ _⟩
  have hpos:0<xs.length:=List.length_pos_iff.2 h0;obtain⟨f,hP,inner,hown,hrep⟩:=hS;rw [List.length_zipIdx] at hown;obtain⟨g,cap,rfl,hb,hlt⟩:=hown.form hpos;rw [ownBlock_row] at hP;obtain⟨ps,hps1,rfl⟩:=packs _ _ hrep;have hpl:ps.length=xs.length:=by have:=congrArg List.length hps1;simpa using this
  have hval:ps.map (fun p=>p.1.1.1)=xs:=by
    have:=congrArg (List.map Prod.fst) hps1;rw [List.map_map] at this;simpa [Function.comp_def] using this
  have hidx0:ps.map (fun p=>p.1.1.2)=List.range xs.length:=by
    have:=congrArg (List.map Prod.snd) hps1;rw [List.map_map] at this;have h5:xs.zipIdx.map Prod.snd=List.range xs.length:=by rw [List.zipIdx_map_snd];simp [List.range_eq_range']
    rw [h5] at this;simpa [Function.comp_def] using this
  have hne:Nonempty { p:(S29 × Nat) × List Value // (Kd.tag f k29).M w base (fun k=>ok k∧some k≠(Value.slice (some ⟨g,0,none⟩) xs.length cap).ownBlock) p.1 p.2 }:=by
    cases ps with
    | nil => simp at hpl; omega
    | cons p _=>exact ⟨p⟩
  have hown:w.ownsRow base 29 2 (.slice (some ⟨g,0,none⟩) xs.length cap) xs.length (ps.flatMap fun p=>p.1.2):=hown
  -- over an abstract type
  obtain⟨α,hα,enc,val,idx,ps',hM,hown',hv',hi',hl'⟩:∃ (α:Type) (_:Inhabited α) (enc:α→List Value) (val:α→S29) (idx:α→Nat) (ps':List α),
      (∀ x,k29.M w base (fun k=>(ok k∧k≠g)∧f k=idx x) (val x) (enc x))∧w.ownsRow base 29 2 (.slice (some ⟨g,0,none⟩) xs.length cap) xs.length (ps'.flatMap enc)∧ps'.map val=xs∧ps'.map idx=List.range xs.length∧ps'.length=xs.length:=by
    refine⟨_,⟨Classical.choice hne⟩,fun p=>p.1.2,fun p=>p.1.1.1,fun p=>p.1.1.2,ps,fun x=>?_,hown,hval,hidx0,hpl⟩;refine k29.M_mono (fun k hk=>⟨⟨hk.1.1,fun e=>hk.1.2 ?_⟩,hk.2⟩) x.2;rw [ownBlock_row,e]
  refine(sortSe_core (val:=val) hM (fun x k h=>h.1.2) hl' hown' hlt hsz).mono ?_;rintro e' w' ⟨rfl,d,hperm,hsort,hown2,hgr⟩;rw [hv'] at hsort;have hdl:d.length=xs.length:=by rw [hperm.length_eq,hl']
  have hnd:(d.map idx).Nodup:=by
    rw [(hperm.map idx).nodup_iff,hi'];exact List.nodup_range
  refine⟨rfl,?_,hgr⟩;rw [← hsort];refine⟨fun k=>(d.map idx).idxOf (f k),?_,d.flatMap enc,?_,?_⟩
  · rw [ownBlock_row];exact hP
  · rw [List.length_zipIdx,List.length_map,hdl];exact hown2
  refine reps_flat_at (fun x=>k29.K_len (k29.K_of_M (hM x))) _ _ (by simp) (fun j hj z hz=>?_);have hz':z=(val (d[j]),j):=by
    rw [List.getElem?_zipIdx,List.getElem?_map,List.getElem?_eq_getElem hj] at hz;simpa using hz.symm
  subst hz';have hM2:=Kd.M_step (hM d[j]) (fun k hk' hkl=>hgr.block k hkl (fun e=>hk'.1.2 (Qd e)));refine k29.M_mono (fun k hk'=>⟨⟨hk'.1.1,fun e=>hk'.1.2 (Qd e)⟩,?_⟩) hM2
  show (d.map idx).idxOf (f k)=j
  rw [hk'.2];have hj2:j<(d.map idx).length:=by simpa using hj
  have h5:idx d[j]=(d.map idx)[j]:=by simp
  rw [h5];exact hnd.idxOf_getElem j hj2
end Go.Proofs.YtpbembafpnknhaaGreat.Pr
namespace Go.Proofs.YtpbembafpnknhaaGreat.Pr
open Go.RowKit Go.Proofs.YtpbembafpnknhaaGreatW.PrintWords Go.Proofs.YtpbembafpnknhaaGreatW.PrintLast Go.Proofs.YtpbembafpnknhaaGreatW.PrintMore
def norm_CmpSentry.f(k:Nat)(l0_0:List (S78))(l0_1:List (S93))(l1_0:List (S78))(l1_1:List (S93)):Option (Int):=PrD.norm_CmpSentry.f k l0_0 l0_1 l1_0 l1_1
theorem norm_CmpSentry.calls(k:Nat)(A0_0:Option Addr)(c0_0:Nat)(l0_0:List (S78))(A0_1:Option Addr)(c0_1:Nat)(l0_1:List (S93))(A1_0:Option Addr)(c1_0:Nat)(l1_0:List (S78))(A1_1:Option Addr)(c1_1:Nat)(l1_1:List (S93))(r:Int)(w:World)(hr0_0:Kd.C k78 w A0_0 l0_0.length l0_0)(hc0_0:l0_0.length≤c0_0)(hr0_1:Kd.C k93 w A0_1 l0_1.length l0_1)(hc0_1:l0_1.length≤c0_1)(hr1_0:Kd.C k78 w A1_0 l1_0.length l1_0)(hc1_0:l1_0.length≤c1_0)(hr1_1:Kd.C k93 w A1_1 l1_1.length l1_1)(hc1_1:l1_1.length≤c1_1)(h:norm_CmpSentry.f k l0_0 l0_1 l1_0 l1_1=some r) :
 Calls Tryz.prog 32 #[.agg #[.slice A0_0 l0_0.length c0_0,.slice A0_1 l0_1.length c0_1],.agg #[.slice A1_0 l1_0.length c1_0,.slice A1_1 l1_1.length c1_1]] w fun e w'=>e = .returned (.int .i64 r)∧Below w.heap.size w w':=
 (PrD.norm_CmpSentry.calls k A0_0 c0_0 l0_0 A0_1 c0_1 l0_1 A1_0 c1_0 l1_0 A1_1 c1_1 l1_1 r w hr0_0 hc0_0 hr0_1 hc0_1 hr1_0 hc1_0 hr1_1 hc1_1 h).mono fun _ _ h=>⟨h.1,h.2.below⟩
end Go.Proofs.YtpbembafpnknhaaGreat.Pr
namespace Go.Proofs.YtpbembafpnknhaaGreat.Pr
open Go.RowKit Sn Go.Proofs.YtpbembafpnknhaaGreatW.PrintWords Go.Proofs.YtpbembafpnknhaaGreatW.PrintLast Go.Proofs.YtpbembafpnknhaaGreatW.PrintMore
def eqSe(y x:S29):Bool:=cmpSe y x == 0
theorem eqSe_iff{y x:S29}:eqSe y x=true↔y=x:=by
  unfold eqSe;rw [beq_iff_eq];exact isCmp_se.eq0 _ _
theorem eqSe_calls{A0 A1 B0 B1:Option Addr}{c0 c1 d0 d1:Nat}{x y:S29}{w:World}(l0:x.f0.length≤c0)(r0:Kd.C k78 w A0 x.f0.length x.f0)(l1:x.f1.length≤c1)(r1:Kd.C k93 w A1 x.f1.length x.f1)(m0:y.f0.length≤d0)(s0:Kd.C k78 w B0 y.f0.length y.f0)(m1:y.f1.length≤d1)(s1:Kd.C k93 w B1 y.f1.length y.f1) :
    Calls Tryz.prog 181 #[.agg #[.slice A0 x.f0.length c0,.slice A1 x.f1.length c1],.agg #[.slice B0 y.f0.length d0,.slice B1 y.f1.length d1]] w fun e w'=>e = .returned (.bool (eqSe x y))∧Below w.heap.size w w':=by
  have hc:∀ W,Below w.heap.size w W→Calls Tryz.prog 32 #[.agg #[.slice A0 x.f0.length c0,.slice A1 x.f1.length c1],.agg #[.slice B0 y.f0.length d0,.slice B1 y.f1.length d1]] W fun e w'=>e = .returned (.int .i64 (cmpSe x y))∧Below w.heap.size w w':=fun W hW =>
    (PrD.norm_CmpSentry.calls (x.f0.length+x.f1.length+9) A0 c0 x.f0 A1 c1 x.f1 B0 d0 y.f0 B1 d1 y.f1 (cmpSe x y) W (Kd.C_below r0 hW) l0 (Kd.C_below r1 hW) l1 (Kd.C_below s0 hW) m0 (Kd.C_below s1 hW) m1 (PrD.cmpSe_f _ _ _ r0.2.1 r1.2.1 (Nat.le_refl _))).mono
      (fun _ _ h=>⟨h.1,below_step hW h.2.below⟩)
  have HB:=am (Below.refl w.heap.size w);go_enter Tryz.func181,Tryz.ntmps181;go_wp2_with (first|((with_reducible refine gc_ 32 ?_);refine goesL_ (some 7) rfl rfl Tryz.func32 (by kernel_rfl) rfl #[.agg #[.slice A0 x.f0.length c0,.slice A1 x.f1.length c1],.agg #[.slice B0 y.f0.length d0,.slice B1 y.f1.length d1]] rfl (by (try simp only [List.map_toArray,List.map_cons,List.map_nil]);first|done|rfl) ?_;refine(hc _ (zb)).mono ?_;rintro e w7 ⟨rfl,hb⟩;refine⟨_,rfl,?_⟩))
  go_ret;exact⟨rfl,hb⟩
section
variable{g : Nat}{w : World}{A0 A1 B0 B1 D0 D1 : Option Addr}{m0 m1 n0 n1 q0 q1 c0 c1 d0 d1 e0 e1 : Nat}
theorem compactSe_2n(cap:Nat)(hg:g<w.heap.size)(hcap:2≤cap)(hm:cap≤9223372036854775807)(k0:w.cell? ⟨g,0,none⟩=some (.slice A0 m0 c0))(k1:w.cell? ⟨g,1,none⟩=some (.slice A1 m1 c1))(k2:w.cell? ⟨g,2,none⟩=some (.slice B0 n0 d0))(k3:w.cell? ⟨g,3,none⟩=some (.slice B1 n1 d1))(hc0:∀ W,Below w.heap.size w W→Calls Tryz.prog 181 #[.agg #[.slice B0 n0 d0,.slice B1 n1 d1],.agg #[.slice A0 m0 c0,.slice A1 m1 c1]] W fun e w'=>e = .returned (.bool false)∧Below w.heap.size w w') :
    Calls Tryz.prog 180 #[.slice (some ⟨g,0,none⟩) 2 cap,.func (.func 181) #[] #[]] w fun e w'=>e = .returned (.slice (some ⟨g,0,none⟩) 2 cap)∧Below w.heap.size w w':=by
  have HB:=am (Below.refl w.heap.size w);have HC0:=am hc0;clear hc0;have kk0:=k0;have kk1:=k1;have kk2:=k2;have kk3:=k3;have hW0:IntKind.i64.wrap 0=0:=by decide
  have hW1:IntKind.i64.wrap 1=1:=by decide
  go_enter Tryz.func180,Tryz.ntmps180;go_wp2;refine wp_loop_rounds 2 ?_;rw [rounds_succ];go_wp2;go_still_tail 10,(by kernel_rfl)
  change wpList _ _ _ _ _ w.drew
  go_wp2_with (first|((with_reducible refine gate_callee_d (f:=181) rfl ?_);refine goesLd_ _ rfl rfl Tryz.func181 (by kernel_rfl) rfl #[.agg #[.slice B0 n0 d0,.slice B1 n1 d1],.agg #[.slice A0 m0 c0,.slice A1 m1 c1]] rfl (by (try simp only [List.map_toArray,List.map_cons,List.map_nil]);first|done|rfl) ?_;refine(HC0.out _ (zb)).mono ?_;rintro e w7 ⟨rfl,hb⟩;refine⟨_,rfl,?_⟩;clear HB;have HB:=am hb;replace k0:=(hb.cell (Qk w _ kk0)).trans kk0;replace k1:=(hb.cell (Qk w _ kk1)).trans kk1;replace k2:=(hb.cell (Qk w _ kk2)).trans kk2;replace k3:=(hb.cell (Qk w _ kk3)).trans kk3;clear hb))
  rw [rounds_succ];go_wp2;go_ret;exact⟨rfl,HB.out⟩
theorem compactSe_3nn(cap:Nat)(hg:g<w.heap.size)(hcap:3≤cap)(hm:cap≤9223372036854775807)(k0:w.cell? ⟨g,0,none⟩=some (.slice A0 m0 c0))(k1:w.cell? ⟨g,1,none⟩=some (.slice A1 m1 c1))(k2:w.cell? ⟨g,2,none⟩=some (.slice B0 n0 d0))(k3:w.cell? ⟨g,3,none⟩=some (.slice B1 n1 d1))(k4:w.cell? ⟨g,4,none⟩=some (.slice D0 q0 e0))(k5:w.cell? ⟨g,5,none⟩=some (.slice D1 q1 e1))(hc0:∀ W,Below w.heap.size w W→Calls Tryz.prog 181 #[.agg #[.slice B0 n0 d0,.slice B1 n1 d1],.agg #[.slice A0 m0 c0,.slice A1 m1 c1]] W fun e w'=>e = .returned (.bool false)∧Below w.heap.size w w')(hc1:∀ W,Below w.heap.size w W→Calls Tryz.prog 181 #[.agg #[.slice D0 q0 e0,.slice D1 q1 e1],.agg #[.slice B0 n0 d0,.slice B1 n1 d1]] W fun e w'=>e = .returned (.bool false)∧Below w.heap.size w w') :
    Calls Tryz.prog 180 #[.slice (some ⟨g,0,none⟩) 3 cap,.func (.func 181) #[] #[]] w fun e w'=>e = .returned (.slice (some ⟨g,0,none⟩) 3 cap)∧Below w.heap.size w w':=by
  have HB:=am (Below.refl w.heap.size w);have HC0:=am hc0;clear hc0;have HC1:=am hc1;clear hc1;have kk0:=k0;have kk1:=k1;have kk2:=k2;have kk3:=k3;have kk4:=k4;have kk5:=k5;have hW0:IntKind.i64.wrap 0=0:=by decide
  have hW1:IntKind.i64.wrap 1=1:=by decide
  go_enter Tryz.func180,Tryz.ntmps180;go_wp2;refine wp_loop_rounds 3 ?_;rw [rounds_succ];go_wp2;go_still_tail 10,(by kernel_rfl)
  change wpList _ _ _ _ _ w.drew
  go_wp2_with (first|((with_reducible refine gate_callee_d (f:=181) rfl ?_);refine goesLd_ _ rfl rfl Tryz.func181 (by kernel_rfl) rfl #[.agg #[.slice B0 n0 d0,.slice B1 n1 d1],.agg #[.slice A0 m0 c0,.slice A1 m1 c1]] rfl (by (try simp only [List.map_toArray,List.map_cons,List.map_nil]);first|done|rfl) ?_;refine(HC0.out _ (zb)).mono ?_;rintro e w7 ⟨rfl,hb⟩;refine⟨_,rfl,?_⟩;clear HB;have HB:=am hb;replace k0:=(hb.cell (Qk w _ kk0)).trans kk0;replace k1:=(hb.cell (Qk w _ kk1)).trans kk1;replace k2:=(hb.cell (Qk w _ kk2)).trans kk2;replace k3:=(hb.cell (Qk w _ kk3)).trans kk3;replace k4:=(hb.cell (Qk w _ kk4)).trans kk4;replace k5:=(hb.cell (Qk w _ kk5)).trans kk5;clear hb))
  rw [rounds_succ];go_wp2;go_still_tail 10,(by kernel_rfl)
  change wpList _ _ _ _ _ w7.drew
  go_wp2_with (first|((with_reducible refine gate_callee_d (f:=181) rfl ?_);refine goesLd_ _ rfl rfl Tryz.func181 (by kernel_rfl) rfl #[.agg #[.slice D0 q0 e0,.slice D1 q1 e1],.agg #[.slice B0 n0 d0,.slice B1 n1 d1]] rfl (by (try simp only [List.map_toArray,List.map_cons,List.map_nil]);first|done|rfl) ?_;refine(HC1.out _ (zb)).mono ?_;rintro e w8 ⟨rfl,hb⟩;refine⟨_,rfl,?_⟩;clear HB;have HB:=am hb;replace k0:=(hb.cell (Qk w _ kk0)).trans kk0;replace k1:=(hb.cell (Qk w _ kk1)).trans kk1;replace k2:=(hb.cell (Qk w _ kk2)).trans kk2;replace k3:=(hb.cell (Qk w _ kk3)).trans kk3;replace k4:=(hb.cell (Qk w _ kk4)).trans kk4;replace k5:=(hb.cell (Qk w _ kk5)).trans kk5;clear hb))
  rw [rounds_succ];go_wp2;go_ret;exact⟨rfl,HB.out⟩
theorem compactSe_2y(cap:Nat)(hg:g<w.heap.size)(hcap:2≤cap)(hm:cap≤9223372036854775807)(k0:w.cell? ⟨g,0,none⟩=some (.slice A0 m0 c0))(k1:w.cell? ⟨g,1,none⟩=some (.slice A1 m1 c1))(k2:w.cell? ⟨g,2,none⟩=some (.slice B0 n0 d0))(k3:w.cell? ⟨g,3,none⟩=some (.slice B1 n1 d1))(f2:w.frozen? ⟨g,2,none⟩=false)(f3:w.frozen? ⟨g,3,none⟩=false)(hc0:∀ W,Below w.heap.size w W→Calls Tryz.prog 181 #[.agg #[.slice B0 n0 d0,.slice B1 n1 d1],.agg #[.slice A0 m0 c0,.slice A1 m1 c1]] W fun e w'=>e = .returned (.bool true)∧Below w.heap.size w w') :
    Calls Tryz.prog 180 #[.slice (some ⟨g,0,none⟩) 2 cap,.func (.func 181) #[] #[]] w fun e w'=>e = .returned (.slice (some ⟨g,0,none⟩) 1 cap)∧∃ W,Below w.heap.size w W∧w'=W.setCells g 2 [.slice none 0 0,.slice none 0 0]:=by
  have HB:=am (Below.refl w.heap.size w);have HC0:=am hc0;clear hc0;have kk0:=k0;have kk1:=k1;have kk2:=k2;have kk3:=k3;have ff2:=f2;have ff3:=f3;have hW0:IntKind.i64.wrap 0=0:=by decide
  have hW1:IntKind.i64.wrap 1=1:=by decide
  have hcl:∀ W,Below w.heap.size w W→∀ c,Sem.run Tryz.prog (Builtin.clear_ #[45] 0 #[.slice (some ⟨g,2,none⟩) 1 c]) W = .ok (.tuple #[]) (W.setCells g 2 [.slice none 0 0,.slice none 0 0]):=fun W hW c =>
    run_clear_slice (z:=.agg #[.slice none 0 0,.slice none 0 0]) (n:=1) Tryz.underlying45 Tryz.zeroValue29 (by decide) (by kernel_rfl) (fun j hj=>by
      have hj:j<2:=hj;have hx:∀ p:Addr,p.block=g→W.cell? p=w.cell? p:=fun p hp=>hW.cell (by rw [hp];exact hg)
      match j, hj with
      | 0, _ => rw [hx _ rfl]; simp [k2]
      | 1,_=>rw [hx _ rfl];simp [k3]
      ) (fun j hj=>by
      have hj:j<2:=hj;have hx:∀ p:Addr,p.block=g→W.frozen? p=w.frozen? p:=fun p hp=>hW.frozen (by rw [hp];exact hg)
      match j, hj with
      | 0, _ => rw [hx _ rfl]; simpa using f2
      | 1,_=>rw [hx _ rfl];simpa using f3
      ) (fun v hv=>by
      have hv:v ∈ [Value.slice none 0 0,Value.slice none 0 0]:=hv;simp only [List.mem_cons,List.not_mem_nil,or_false] at hv;rcases hv with rfl|rfl <;> rfl)
  go_enter Tryz.func180,Tryz.ntmps180;go_wp2;refine wp_loop_rounds 2 ?_;rw [rounds_succ];go_wp2;go_still_tail 10,(by kernel_rfl)
  change wpList _ _ _ _ _ w.drew
  go_wp2_with (first|((with_reducible refine gate_callee_d (f:=181) rfl ?_);refine goesLd_ _ rfl rfl Tryz.func181 (by kernel_rfl) rfl #[.agg #[.slice B0 n0 d0,.slice B1 n1 d1],.agg #[.slice A0 m0 c0,.slice A1 m1 c1]] rfl (by (try simp only [List.map_toArray,List.map_cons,List.map_nil]);first|done|rfl) ?_;refine(HC0.out _ (zb)).mono ?_;rintro e w7 ⟨rfl,hb⟩;refine⟨_,rfl,?_⟩;clear HB;have HB:=am hb;replace k0:=(hb.cell (Qk w _ kk0)).trans kk0;replace k1:=(hb.cell (Qk w _ kk1)).trans kk1;replace k2:=(hb.cell (Qk w _ kk2)).trans kk2;replace k3:=(hb.cell (Qk w _ kk3)).trans kk3;clear hb))
  have hcl':=fun c=>hcl w7 HB.out c
  go_wp2;refine wp_loop_rounds 1 ?_;rw [rounds_succ];go_wp2;go_ret;exact⟨rfl,w7,HB.out,rfl⟩
theorem compactSe_3ny(cap:Nat)(hg:g<w.heap.size)(hcap:3≤cap)(hm:cap≤9223372036854775807)(k0:w.cell? ⟨g,0,none⟩=some (.slice A0 m0 c0))(k1:w.cell? ⟨g,1,none⟩=some (.slice A1 m1 c1))(k2:w.cell? ⟨g,2,none⟩=some (.slice B0 n0 d0))(k3:w.cell? ⟨g,3,none⟩=some (.slice B1 n1 d1))(k4:w.cell? ⟨g,4,none⟩=some (.slice D0 q0 e0))(k5:w.cell? ⟨g,5,none⟩=some (.slice D1 q1 e1))(f2:w.frozen? ⟨g,2,none⟩=false)(f3:w.frozen? ⟨g,3,none⟩=false)(f4:w.frozen? ⟨g,4,none⟩=false)(f5:w.frozen? ⟨g,5,none⟩=false)(hc0:∀ W,Below w.heap.size w W→Calls Tryz.prog 181 #[.agg #[.slice B0 n0 d0,.slice B1 n1 d1],.agg #[.slice A0 m0 c0,.slice A1 m1 c1]] W fun e w'=>e = .returned (.bool false)∧Below w.heap.size w w')(hc1:∀ W,Below w.heap.size w W→Calls Tryz.prog 181 #[.agg #[.slice D0 q0 e0,.slice D1 q1 e1],.agg #[.slice B0 n0 d0,.slice B1 n1 d1]] W fun e w'=>e = .returned (.bool true)∧Below w.heap.size w w') :
    Calls Tryz.prog 180 #[.slice (some ⟨g,0,none⟩) 3 cap,.func (.func 181) #[] #[]] w fun e w'=>e = .returned (.slice (some ⟨g,0,none⟩) 2 cap)∧∃ W,Below w.heap.size w W∧w'=W.setCells g 4 [.slice none 0 0,.slice none 0 0]:=by
  have HB:=am (Below.refl w.heap.size w);have HC0:=am hc0;clear hc0;have HC1:=am hc1;clear hc1;have kk0:=k0;have kk1:=k1;have kk2:=k2;have kk3:=k3;have kk4:=k4;have kk5:=k5;have ff2:=f2;have ff3:=f3;have ff4:=f4;have ff5:=f5;have hW0:IntKind.i64.wrap 0=0:=by decide
  have hW1:IntKind.i64.wrap 1=1:=by decide
  have hcl:∀ W,Below w.heap.size w W→∀ c,Sem.run Tryz.prog (Builtin.clear_ #[45] 0 #[.slice (some ⟨g,4,none⟩) 1 c]) W = .ok (.tuple #[]) (W.setCells g 4 [.slice none 0 0,.slice none 0 0]):=fun W hW c =>
    run_clear_slice (z:=.agg #[.slice none 0 0,.slice none 0 0]) (n:=1) Tryz.underlying45 Tryz.zeroValue29 (by decide) (by kernel_rfl) (fun j hj=>by
      have hj:j<2:=hj;have hx:∀ p:Addr,p.block=g→W.cell? p=w.cell? p:=fun p hp=>hW.cell (by rw [hp];exact hg)
      match j, hj with
      | 0, _ => rw [hx _ rfl]; simp [k4]
      | 1,_=>rw [hx _ rfl];simp [k5]
      ) (fun j hj=>by
      have hj:j<2:=hj;have hx:∀ p:Addr,p.block=g→W.frozen? p=w.frozen? p:=fun p hp=>hW.frozen (by rw [hp];exact hg)
      match j, hj with
      | 0, _ => rw [hx _ rfl]; simpa using f4
      | 1,_=>rw [hx _ rfl];simpa using f5
      ) (fun v hv=>by
      have hv:v ∈ [Value.slice none 0 0,Value.slice none 0 0]:=hv;simp only [List.mem_cons,List.not_mem_nil,or_false] at hv;rcases hv with rfl|rfl <;> rfl)
  go_enter Tryz.func180,Tryz.ntmps180;go_wp2;refine wp_loop_rounds 3 ?_;rw [rounds_succ];go_wp2;go_still_tail 10,(by kernel_rfl)
  change wpList _ _ _ _ _ w.drew
  go_wp2_with (first|((with_reducible refine gate_callee_d (f:=181) rfl ?_);refine goesLd_ _ rfl rfl Tryz.func181 (by kernel_rfl) rfl #[.agg #[.slice B0 n0 d0,.slice B1 n1 d1],.agg #[.slice A0 m0 c0,.slice A1 m1 c1]] rfl (by (try simp only [List.map_toArray,List.map_cons,List.map_nil]);first|done|rfl) ?_;refine(HC0.out _ (zb)).mono ?_;rintro e w7 ⟨rfl,hb⟩;refine⟨_,rfl,?_⟩;clear HB;have HB:=am hb;replace k0:=(hb.cell (Qk w _ kk0)).trans kk0;replace k1:=(hb.cell (Qk w _ kk1)).trans kk1;replace k2:=(hb.cell (Qk w _ kk2)).trans kk2;replace k3:=(hb.cell (Qk w _ kk3)).trans kk3;replace k4:=(hb.cell (Qk w _ kk4)).trans kk4;replace k5:=(hb.cell (Qk w _ kk5)).trans kk5;clear hb))
  rw [rounds_succ];go_wp2;go_still_tail 10,(by kernel_rfl)
  change wpList _ _ _ _ _ w7.drew
  go_wp2_with (first|((with_reducible refine gate_callee_d (f:=181) rfl ?_);refine goesLd_ _ rfl rfl Tryz.func181 (by kernel_rfl) rfl #[.agg #[.slice D0 q0 e0,.slice D1 q1 e1],.agg #[.slice B0 n0 d0,.slice B1 n1 d1]] rfl (by (try simp only [List.map_toArray,List.map_cons,List.map_nil]);first|done|rfl) ?_;refine(HC1.out _ (zb)).mono ?_;rintro e w8 ⟨rfl,hb⟩;refine⟨_,rfl,?_⟩;clear HB;have HB:=am hb;replace k0:=(hb.cell (Qk w _ kk0)).trans kk0;replace k1:=(hb.cell (Qk w _ kk1)).trans kk1;replace k2:=(hb.cell (Qk w _ kk2)).trans kk2;replace k3:=(hb.cell (Qk w _ kk3)).trans kk3;replace k4:=(hb.cell (Qk w _ kk4)).trans kk4;replace k5:=(hb.cell (Qk w _ kk5)).trans kk5;clear hb))
  have hcl':=fun c=>hcl w8 HB.out c
  go_wp2;refine wp_loop_rounds 1 ?_;rw [rounds_succ];go_wp2;go_ret;exact⟨rfl,w8,HB.out,rfl⟩
theorem compactSe_3yy(cap:Nat)(hg:g<w.heap.size)(hcap:3≤cap)(hm:cap≤9223372036854775807)(k0:w.cell? ⟨g,0,none⟩=some (.slice A0 m0 c0))(k1:w.cell? ⟨g,1,none⟩=some (.slice A1 m1 c1))(k2:w.cell? ⟨g,2,none⟩=some (.slice B0 n0 d0))(k3:w.cell? ⟨g,3,none⟩=some (.slice B1 n1 d1))(k4:w.cell? ⟨g,4,none⟩=some (.slice D0 q0 e0))(k5:w.cell? ⟨g,5,none⟩=some (.slice D1 q1 e1))(f2:w.frozen? ⟨g,2,none⟩=false)(f3:w.frozen? ⟨g,3,none⟩=false)(f4:w.frozen? ⟨g,4,none⟩=false)(f5:w.frozen? ⟨g,5,none⟩=false)(hc0:∀ W,Below w.heap.size w W→Calls Tryz.prog 181 #[.agg #[.slice B0 n0 d0,.slice B1 n1 d1],.agg #[.slice A0 m0 c0,.slice A1 m1 c1]] W fun e w'=>e = .returned (.bool true)∧Below w.heap.size w w')(hc1:∀ W,Below w.heap.size w W→Calls Tryz.prog 181 #[.agg #[.slice D0 q0 e0,.slice D1 q1 e1],.agg #[.slice B0 n0 d0,.slice B1 n1 d1]] W fun e w'=>e = .returned (.bool true)∧Below w.heap.size w w') :
    Calls Tryz.prog 180 #[.slice (some ⟨g,0,none⟩) 3 cap,.func (.func 181) #[] #[]] w fun e w'=>e = .returned (.slice (some ⟨g,0,none⟩) 1 cap)∧∃ W,Below w.heap.size w W∧w'=W.setCells g 2 [.slice none 0 0,.slice none 0 0,.slice none 0 0,.slice none 0 0]:=by
  have HB:=am (Below.refl w.heap.size w);have HC0:=am hc0;clear hc0;have HC1:=am hc1;clear hc1;have kk0:=k0;have kk1:=k1;have kk2:=k2;have kk3:=k3;have kk4:=k4;have kk5:=k5;have ff2:=f2;have ff3:=f3;have ff4:=f4;have ff5:=f5;have hW0:IntKind.i64.wrap 0=0:=by decide
  have hW1:IntKind.i64.wrap 1=1:=by decide
  have hcl:∀ W,Below w.heap.size w W→∀ c,Sem.run Tryz.prog (Builtin.clear_ #[45] 0 #[.slice (some ⟨g,2,none⟩) 2 c]) W = .ok (.tuple #[]) (W.setCells g 2 [.slice none 0 0,.slice none 0 0,.slice none 0 0,.slice none 0 0]):=fun W hW c =>
    run_clear_slice (z:=.agg #[.slice none 0 0,.slice none 0 0]) (n:=2) Tryz.underlying45 Tryz.zeroValue29 (by decide) (by kernel_rfl) (fun j hj=>by
      have hj:j<4:=hj;have hx:∀ p:Addr,p.block=g→W.cell? p=w.cell? p:=fun p hp=>hW.cell (by rw [hp];exact hg)
      match j, hj with
      | 0, _ => rw [hx _ rfl]; simp [k2]
      | 1, _ => rw [hx _ rfl]; simp [k3]
      | 2, _ => rw [hx _ rfl]; simp [k4]
      | 3,_=>rw [hx _ rfl];simp [k5]
      ) (fun j hj=>by
      have hj:j<4:=hj;have hx:∀ p:Addr,p.block=g→W.frozen? p=w.frozen? p:=fun p hp=>hW.frozen (by rw [hp];exact hg)
      match j, hj with
      | 0, _ => rw [hx _ rfl]; simpa using f2
      | 1, _ => rw [hx _ rfl]; simpa using f3
      | 2, _ => rw [hx _ rfl]; simpa using f4
      | 3,_=>rw [hx _ rfl];simpa using f5
      ) (fun v hv=>by
      have hv:v ∈ [Value.slice none 0 0,Value.slice none 0 0,Value.slice none 0 0,Value.slice none 0 0]:=hv;simp only [List.mem_cons,List.not_mem_nil,or_false] at hv;rcases hv with rfl|rfl|rfl|rfl <;> rfl)
  go_enter Tryz.func180,Tryz.ntmps180;go_wp2;refine wp_loop_rounds 3 ?_;rw [rounds_succ];go_wp2;go_still_tail 10,(by kernel_rfl)
  change wpList _ _ _ _ _ w.drew
  go_wp2_with (first|((with_reducible refine gate_callee_d (f:=181) rfl ?_);refine goesLd_ _ rfl rfl Tryz.func181 (by kernel_rfl) rfl #[.agg #[.slice B0 n0 d0,.slice B1 n1 d1],.agg #[.slice A0 m0 c0,.slice A1 m1 c1]] rfl (by (try simp only [List.map_toArray,List.map_cons,List.map_nil]);first|done|rfl) ?_;refine(HC0.out _ (zb)).mono ?_;rintro e w7 ⟨rfl,hb⟩;refine⟨_,rfl,?_⟩;clear HB;have HB:=am hb;replace k0:=(hb.cell (Qk w _ kk0)).trans kk0;replace k1:=(hb.cell (Qk w _ kk1)).trans kk1;replace k2:=(hb.cell (Qk w _ kk2)).trans kk2;replace k3:=(hb.cell (Qk w _ kk3)).trans kk3;replace k4:=(hb.cell (Qk w _ kk4)).trans kk4;replace k5:=(hb.cell (Qk w _ kk5)).trans kk5;clear hb))
  go_wp2;refine wp_loop_rounds 2 ?_;rw [rounds_succ];go_wp2;go_still_tail 10,(by kernel_rfl)
  change wpList _ _ _ _ _ w7.drew
  go_wp2_with (first|((with_reducible refine gate_callee_d (f:=181) rfl ?_);refine goesLd_ _ rfl rfl Tryz.func181 (by kernel_rfl) rfl #[.agg #[.slice D0 q0 e0,.slice D1 q1 e1],.agg #[.slice B0 n0 d0,.slice B1 n1 d1]] rfl (by (try simp only [List.map_toArray,List.map_cons,List.map_nil]);first|done|rfl) ?_;refine(HC1.out _ (zb)).mono ?_;rintro e w8 ⟨rfl,hb⟩;refine⟨_,rfl,?_⟩;clear HB;have HB:=am hb;replace k0:=(hb.cell (Qk w _ kk0)).trans kk0;replace k1:=(hb.cell (Qk w _ kk1)).trans kk1;replace k2:=(hb.cell (Qk w _ kk2)).trans kk2;replace k3:=(hb.cell (Qk w _ kk3)).trans kk3;replace k4:=(hb.cell (Qk w _ kk4)).trans kk4;replace k5:=(hb.cell (Qk w _ kk5)).trans kk5;clear hb))
  have hcl':=fun c=>hcl w8 HB.out c
  rw [rounds_succ];go_wp2;go_ret;exact⟨rfl,w8,HB.out,rfl⟩
theorem compactSe_3yn(cap:Nat)(hg:g<w.heap.size)(hcap:3≤cap)(hm:cap≤9223372036854775807)(k0:w.cell? ⟨g,0,none⟩=some (.slice A0 m0 c0))(k1:w.cell? ⟨g,1,none⟩=some (.slice A1 m1 c1))(k2:w.cell? ⟨g,2,none⟩=some (.slice B0 n0 d0))(k3:w.cell? ⟨g,3,none⟩=some (.slice B1 n1 d1))(k4:w.cell? ⟨g,4,none⟩=some (.slice D0 q0 e0))(k5:w.cell? ⟨g,5,none⟩=some (.slice D1 q1 e1))(f2:w.frozen? ⟨g,2,none⟩=false)(f3:w.frozen? ⟨g,3,none⟩=false)(f4:w.frozen? ⟨g,4,none⟩=false)(f5:w.frozen? ⟨g,5,none⟩=false)(hc0:∀ W,Below w.heap.size w W→Calls Tryz.prog 181 #[.agg #[.slice B0 n0 d0,.slice B1 n1 d1],.agg #[.slice A0 m0 c0,.slice A1 m1 c1]] W fun e w'=>e = .returned (.bool true)∧Below w.heap.size w w')(hc1:∀ W,Below w.heap.size w W→Calls Tryz.prog 181 #[.agg #[.slice D0 q0 e0,.slice D1 q1 e1],.agg #[.slice B0 n0 d0,.slice B1 n1 d1]] W fun e w'=>e = .returned (.bool false)∧Below w.heap.size w w') :
    Calls Tryz.prog 180 #[.slice (some ⟨g,0,none⟩) 3 cap,.func (.func 181) #[] #[]] w fun e w'=>e = .returned (.slice (some ⟨g,0,none⟩) 2 cap)∧∃ W,Below w.heap.size w W∧w'=(W.setCells g 2 [.slice D0 q0 e0,.slice D1 q1 e1]).setCells g 4 [.slice none 0 0,.slice none 0 0]:=by
  have HB:=am (Below.refl w.heap.size w);have HC0:=am hc0;clear hc0;have HC1:=am hc1;clear hc1;have kk0:=k0;have kk1:=k1;have kk2:=k2;have kk3:=k3;have kk4:=k4;have kk5:=k5;have ff2:=f2;have ff3:=f3;have ff4:=f4;have ff5:=f5;have hW0:IntKind.i64.wrap 0=0:=by decide
  have hW1:IntKind.i64.wrap 1=1:=by decide
  have hcl:∀ W:World,W.cell? ⟨g,4,none⟩=some (.slice D0 q0 e0)→W.cell? ⟨g,5,none⟩=some (.slice D1 q1 e1)→W.frozen? ⟨g,4,none⟩=false→W.frozen? ⟨g,5,none⟩=false→∀ c,Sem.run Tryz.prog (Builtin.clear_ #[45] 0 #[.slice (some ⟨g,4,none⟩) 1 c]) W = .ok (.tuple #[]) (W.setCells g 4 [.slice none 0 0,.slice none 0 0]):=fun W h4 h5 i4 i5 c =>
    run_clear_slice (z:=.agg #[.slice none 0 0,.slice none 0 0]) (n:=1) Tryz.underlying45 Tryz.zeroValue29 (by decide) (by kernel_rfl) (fun j hj=>by
      have hj:j<2:=hj
      match j, hj with
      | 0, _ => simp [h4]
      | 1,_=>simp [h5]
      ) (fun j hj=>by
      have hj:j<2:=hj
      match j, hj with
      | 0, _ => simpa using i4
      | 1,_=>simpa using i5
      ) (fun v hv=>by
      have hv:v ∈ [Value.slice none 0 0,Value.slice none 0 0]:=hv;simp only [List.mem_cons,List.not_mem_nil,or_false] at hv;rcases hv with rfl|rfl <;> rfl)
  go_enter Tryz.func180,Tryz.ntmps180;go_wp2;refine wp_loop_rounds 3 ?_;rw [rounds_succ];go_wp2;go_still_tail 10,(by kernel_rfl)
  change wpList _ _ _ _ _ w.drew
  go_wp2_with (first|((with_reducible refine gate_callee_d (f:=181) rfl ?_);refine goesLd_ _ rfl rfl Tryz.func181 (by kernel_rfl) rfl #[.agg #[.slice B0 n0 d0,.slice B1 n1 d1],.agg #[.slice A0 m0 c0,.slice A1 m1 c1]] rfl (by (try simp only [List.map_toArray,List.map_cons,List.map_nil]);first|done|rfl) ?_;refine(HC0.out _ (zb)).mono ?_;rintro e w7 ⟨rfl,hb⟩;refine⟨_,rfl,?_⟩;clear HB;have HB:=am hb;replace k0:=(hb.cell (Qk w _ kk0)).trans kk0;replace k1:=(hb.cell (Qk w _ kk1)).trans kk1;replace k2:=(hb.cell (Qk w _ kk2)).trans kk2;replace k3:=(hb.cell (Qk w _ kk3)).trans kk3;replace k4:=(hb.cell (Qk w _ kk4)).trans kk4;replace k5:=(hb.cell (Qk w _ kk5)).trans kk5;clear hb))
  go_wp2;refine wp_loop_rounds 2 ?_;rw [rounds_succ];go_wp2;go_still_tail 10,(by kernel_rfl)
  change wpList _ _ _ _ _ w7.drew
  go_wp2_with (first|((with_reducible refine gate_callee_d (f:=181) rfl ?_);refine goesLd_ _ rfl rfl Tryz.func181 (by kernel_rfl) rfl #[.agg #[.slice D0 q0 e0,.slice D1 q1 e1],.agg #[.slice B0 n0 d0,.slice B1 n1 d1]] rfl (by (try simp only [List.map_toArray,List.map_cons,List.map_nil]);first|done|rfl) ?_;refine(HC1.out _ (zb)).mono ?_;rintro e w8 ⟨rfl,hb⟩;refine⟨_,rfl,?_⟩;clear HB;have HB:=am hb;replace k0:=(hb.cell (Qk w _ kk0)).trans kk0;replace k1:=(hb.cell (Qk w _ kk1)).trans kk1;replace k2:=(hb.cell (Qk w _ kk2)).trans kk2;replace k3:=(hb.cell (Qk w _ kk3)).trans kk3;replace k4:=(hb.cell (Qk w _ kk4)).trans kk4;replace k5:=(hb.cell (Qk w _ kk5)).trans kk5;replace f2:=(hb.frozen (p:=⟨g,2,none⟩) hg).trans ff2;replace f3:=(hb.frozen (p:=⟨g,3,none⟩) hg).trans ff3;replace f4:=(hb.frozen (p:=⟨g,4,none⟩) hg).trans ff4;replace f5:=(hb.frozen (p:=⟨g,5,none⟩) hg).trans ff5;clear hb))
  have hcl':=fun c=>hcl ((w8.setCell ⟨g,2,none⟩ (.slice D0 q0 e0)).setCell ⟨g,3,none⟩ (.slice D1 q1 e1)) (by go_simp) (by go_simp) (by go_simp) (by go_simp) c
  go_wp2;rw [rounds_succ];go_wp2;go_ret;exact⟨rfl,w8,HB.out,rfl⟩
end
theorem own_put{w:World}{base e k n cap g o:Nat}{inner:List Value}{u:Value}(h:w.ownsRow base e k (.slice (some ⟨g,0,none⟩) n cap) n inner) :
    (w.setCell ⟨g,o,none⟩ u).ownsRow base e k (.slice (some ⟨g,0,none⟩) n cap) n (inner.set o u):=by
  obtain⟨hlen,h2⟩:=h;rcases h2 with ⟨he,_⟩ | ⟨g',cap',cur,he,hb,hh,hnc,hcm,hcs,htk⟩
  · cases he
  injection he with he1 he2 he3;injection he1 with he1;injection he1 with he1;subst he1;subst he3;have h3:(w.setCell ⟨g,o,none⟩ u).heap[g]? = some (.cells (cur.setIfInBounds o u) e (0,0)):=by
    show (w.heap.modify g _)[g]? = _
    rw [Array.getElem?_modify,if_pos rfl,hh];rfl
  refine⟨by rw [List.length_set];exact hlen,.inr ⟨g,cap,_,rfl,hb,h3,hnc,hcm,by simpa using hcs,?_⟩⟩;rw [Array.toList_setIfInBounds,← htk,List.take_set]
theorem S_packs{base:Nat}{ok:Nat→Prop}{v:Value}{xs:List S29}{w:World}(hS:Kd.S k29 29 w base ok v xs)(h0:xs ≠ []) :
    ∃ (g cap : Nat) (f : Nat → Nat) (α : Type) (_ : Inhabited α) (enc : α → List Value) (val : α → S29) (idx : α → Nat) (ps : List α),
      v = .slice (some ⟨g,0,none⟩) xs.length cap∧base≤g∧g<w.heap.size∧ok g ∧
      (∀ x,k29.M w base (fun k=>(ok k∧k≠g)∧f k=idx x) (val x) (enc x))∧w.ownsRow base 29 2 (.slice (some ⟨g,0,none⟩) xs.length cap) xs.length (ps.flatMap enc) ∧
      ps.map val=xs∧ps.map idx=List.range xs.length∧ps.length=xs.length:=by
  have hpos:0<xs.length:=List.length_pos_iff.2 h0;obtain⟨f,hP,inner,hown,hrep⟩:=hS;rw [List.length_zipIdx] at hown;obtain⟨g,cap,rfl,hb,hlt⟩:=hown.form hpos;rw [ownBlock_row] at hP;obtain⟨ps,hps1,rfl⟩:=packs _ _ hrep;have hpl:ps.length=xs.length:=by have:=congrArg List.length hps1;simpa using this
  have hval:ps.map (fun p=>p.1.1.1)=xs:=by
    have:=congrArg (List.map Prod.fst) hps1;rw [List.map_map] at this;simpa [Function.comp_def] using this
  have hidx0:ps.map (fun p=>p.1.1.2)=List.range xs.length:=by
    have:=congrArg (List.map Prod.snd) hps1;rw [List.map_map] at this;have h5:xs.zipIdx.map Prod.snd=List.range xs.length:=by rw [List.zipIdx_map_snd];simp [List.range_eq_range']
    rw [h5] at this;simpa [Function.comp_def] using this
  have hne:Nonempty { p:(S29 × Nat) × List Value // (Kd.tag f k29).M w base (fun k=>ok k∧some k≠(Value.slice (some ⟨g,0,none⟩) xs.length cap).ownBlock) p.1 p.2 }:=by
    cases ps with
    | nil => simp at hpl; omega
    | cons p _=>exact ⟨p⟩
  have hown:w.ownsRow base 29 2 (.slice (some ⟨g,0,none⟩) xs.length cap) xs.length (ps.flatMap fun p=>p.1.2):=hown;refine⟨g,cap,f,_,⟨Classical.choice hne⟩,fun p=>p.1.2,fun p=>p.1.1.1,fun p=>p.1.1.2,ps,rfl,hb,hlt,hP g rfl,fun x=>?_,hown,hval,hidx0,hpl⟩;refine k29.M_mono (fun k hk=>⟨⟨hk.1.1,fun e=>hk.1.2 ?_⟩,hk.2⟩) x.2;rw [ownBlock_row,e]
theorem S_of_packs{base g cap:Nat}{ok:Nat→Prop}{f:Nat→Nat}{w w':World}{α:Type}[Inhabited α]{enc:α→List Value}{val:α→S29}{idx:α→Nat}(hM:∀ x,k29.M w base (fun k=>(ok k∧k≠g)∧f k=idx x) (val x) (enc x)){d:List α}(hnd:(d.map idx).Nodup){n:Nat}(hn:d.length=n)(hown:w'.ownsRow base 29 2 (.slice (some ⟨g,0,none⟩) n cap) n (d.flatMap enc))(hgr:w.grownBy w' (some g))(hg:ok g) :
    Kd.S k29 29 w' base ok (.slice (some ⟨g,0,none⟩) n cap) (d.map val):=by
  subst hn;refine⟨fun k=>(d.map idx).idxOf (f k),?_,d.flatMap enc,?_,?_⟩
  · rw [ownBlock_row];rintro k e;injection e with e;rw [← e];exact hg
  · rw [List.length_zipIdx,List.length_map];exact hown
  refine reps_flat_at (fun x=>k29.K_len (k29.K_of_M (hM x))) _ _ (by simp) (fun j hj z hz=>?_);have hz':z=(val (d[j]),j):=by
    rw [List.getElem?_zipIdx,List.getElem?_map,List.getElem?_eq_getElem hj] at hz;simpa using hz.symm
  subst hz';have hM2:=Kd.M_step (hM d[j]) (fun k hk' hkl=>hgr.block k hkl (fun e=>hk'.1.2 (Qd e)));refine k29.M_mono (fun k hk'=>⟨⟨hk'.1.1,fun e=>hk'.1.2 (Qd e)⟩,?_⟩) hM2
  show (d.map idx).idxOf (f k)=j
  rw [hk'.2];have hj2:j<(d.map idx).length:=by simpa using hj
  have h5:idx d[j]=(d.map idx)[j]:=by simp
  rw [h5];exact hnd.idxOf_getElem j hj2
theorem compactSe_short(A:Option Addr)(n cap:Nat)(w:World)(hn:n<2):Calls Tryz.prog 180 #[.slice A n cap,.func (.func 181) #[] #[]] w fun e w'=>e = .returned (.slice A n cap)∧w=w':=by
  have h2:(n:Int)<2:=by omega
  go_enter Tryz.func180,Tryz.ntmps180;go_wp2;go_ret;exact⟨rfl,rfl⟩
section
variable{α : Type}[Inhabited α]{enc : α → List Value}{val : α → S29}{oka : α → Nat → Prop}{w : World}{base g cap : Nat}
omit [Inhabited α] in
theorem eqSe_packs(hM:∀ x:α,k29.M w base (oka x) (val x) (enc x))(x y:α):∃ A0 m0 c0 A1 m1 c1 B0 n0 d0 B1 n1 d1,enc x=[.slice A0 m0 c0,.slice A1 m1 c1]∧enc y=[.slice B0 n0 d0,.slice B1 n1 d1] ∧
    ∀ W,Below w.heap.size w W→Calls Tryz.prog 181 #[.agg #[.slice A0 m0 c0,.slice A1 m1 c1],.agg #[.slice B0 n0 d0,.slice B1 n1 d1]] W fun e w'=>e = .returned (.bool (eqSe (val x) (val y)))∧Below w.heap.size w w':=by
  obtain⟨A0,c0,A1,c1,e1,l0,r0,l1,r1⟩:=k29_open (k29.K_of_M (hM x));obtain⟨B0,d0,B1,d1,e2,m0,s0,m1,s1⟩:=k29_open (k29.K_of_M (hM y));refine⟨A0,_,c0,A1,_,c1,B0,_,d0,B1,_,d1,e1,e2,fun W hW=>?_⟩;refine(eqSe_calls l0 (Kd.C_below r0 hW) l1 (Kd.C_below r1 hW) m0 (Kd.C_below s0 hW) m1 (Kd.C_below s1 hW)).mono ?_;rintro e w' ⟨h1,h2⟩;exact⟨h1,below_step hW h2⟩
theorem grown_step{w W w':World}{g:Nat}(h:Below w.heap.size w W)(h2:W.grownBy w' (some g)):w.grownBy w' (some g):=(grown_of_below h (some g)).trans h2
omit [Inhabited α] in
theorem compactSe_core(hM : ∀ x : α, k29.M w base (oka x) (val x) (enc x))(ps : List α)(hsz : ps.length ≤ 3)(h0 : ps ≠ [])(hown:w.ownsRow base 29 2 (.slice (some ⟨g,0,none⟩) ps.length cap) ps.length (ps.flatMap enc))(hlt:g<w.heap.size) :
    Calls Tryz.prog 180 #[.slice (some ⟨g,0,none⟩) ps.length cap,.func (.func 181) #[] #[]] w fun e w' => ∃ d:List α,e = .returned (.slice (some ⟨g,0,none⟩) d.length cap)∧d.Sublist ps∧d.map val=compactL eqSe (ps.map val) ∧
      w'.ownsRow base 29 2 (.slice (some ⟨g,0,none⟩) d.length cap) d.length (d.flatMap enc)∧w.grownBy w' (some g):=by
  have hcap:=own_le hown;have hcm:cap≤9223372036854775807:=by
    rcases hown.2 with ⟨he,_⟩ | ⟨_,_,_,he,_,_,_,hcm,_⟩
    · cases he
    injection he with _ _ he3;subst he3;exact hcm
  have hcells:=fun j u=>hown.cells (g:=g) rfl j u
  simp only [add_plain] at hcells;have hfr:∀ j,w.frozen? ⟨g,j,none⟩=false:=by
    intro j;obtain⟨cells,hcb⟩:=own_typed hown g (by simp [Value.ownBlock]);simp [World.frozen?,hcb]
  match ps, hsz, h0 with
  | [x], _, _ =>
    refine(compactSe_short _ _ _ w (by simp)).mono ?_;rintro e' w' ⟨rfl,rfl⟩
    exact ⟨[x], rfl, List.Sublist.refl _, rfl, hown, World.grownBy.refl _ _⟩
  | [x, y], _, _ =>
    obtain⟨B0,n0,d0,B1,n1,d1,A0,m0,c0,A1,m1,c1,ey,ex,hc⟩:=eqSe_packs hM y x;simp only [List.flatMap_cons,List.flatMap_nil,ex,ey,List.cons_append,List.nil_append,List.append_nil] at hcells
    cases hb : eqSe (val y) (val x) with
    | false =>
      rw [hb] at hc;refine(compactSe_2n cap hlt hcap hcm (hcells 0 _ rfl) (hcells 1 _ rfl) (hcells 2 _ rfl) (hcells 3 _ rfl) hc).mono ?_;rintro e' w' ⟨rfl,hW⟩
      exact ⟨[x, y], rfl, List.Sublist.refl _, by simp [compactL, compactFrom, hb], pw_own_below hown hW, grown_of_below hW _⟩
    | true =>
      rw [hb] at hc;refine(compactSe_2y cap hlt hcap hcm (hcells 0 _ rfl) (hcells 1 _ rfl) (hcells 2 _ rfl) (hcells 3 _ rfl) (hfr _) (hfr _) hc).mono ?_;rintro e' w' ⟨rfl,W,hW,rfl⟩;refine⟨[x],rfl,by simp,by simp [compactL,compactFrom,hb],?_,grown_step hW (grown_setCells _ _ _ _)⟩;have h:=own_cut (n':=1) (o:=2) (vs:=[.slice none 0 0,.slice none 0 0]) (pw_own_below hown hW) (by simp) (by decide)
      simpa [ex] using h
  | [x, y, z], _, _ =>
    obtain⟨B0,n0,d0,B1,n1,d1,A0,m0,c0,A1,m1,c1,ey,ex,hc⟩:=eqSe_packs hM y x;obtain⟨D0,q0,e0,D1,q1,e1,B0',n0',d0',B1',n1',d1',ez,ey',hc2⟩:=eqSe_packs hM z y;rw [ey] at ey';injection ey' with ey1 ey';injection ey' with ey2 _;injection ey1 with a1 a2 a3;injection ey2 with a4 a5 a6;subst a1;subst a2;subst a3;subst a4;subst a5;subst a6;simp only [List.flatMap_cons,List.flatMap_nil,ex,ey,ez,List.cons_append,List.nil_append,List.append_nil] at hcells
    cases hb : eqSe (val y) (val x) with
    | false =>
      rw [hb] at hc
      cases hb2 : eqSe (val z) (val y) with
      | false =>
        rw [hb2] at hc2;refine(compactSe_3nn cap hlt hcap hcm (hcells 0 _ rfl) (hcells 1 _ rfl) (hcells 2 _ rfl) (hcells 3 _ rfl) (hcells 4 _ rfl) (hcells 5 _ rfl) hc hc2).mono ?_;rintro e' w' ⟨rfl,hW⟩
        exact ⟨[x, y, z], rfl, List.Sublist.refl _, by simp [compactL, compactFrom, hb, hb2], pw_own_below hown hW, grown_of_below hW _⟩
      | true =>
        rw [hb2] at hc2;refine(compactSe_3ny cap hlt hcap hcm (hcells 0 _ rfl) (hcells 1 _ rfl) (hcells 2 _ rfl) (hcells 3 _ rfl) (hcells 4 _ rfl) (hcells 5 _ rfl) (hfr _) (hfr _) (hfr _) (hfr _) hc hc2).mono ?_;rintro e' w' ⟨rfl,W,hW,rfl⟩;refine⟨[x,y],rfl,by simp,by simp [compactL,compactFrom,hb,hb2],?_,grown_step hW (grown_setCells _ _ _ _)⟩;have h:=own_cut (n':=2) (o:=4) (vs:=[.slice none 0 0,.slice none 0 0]) (pw_own_below hown hW) (by simp) (by decide)
        simpa [ex, ey, ez] using h
    | true =>
      rw [hb] at hc
      cases hb2 : eqSe (val z) (val y) with
      | false =>
        rw [hb2] at hc2;refine(compactSe_3yn cap hlt hcap hcm (hcells 0 _ rfl) (hcells 1 _ rfl) (hcells 2 _ rfl) (hcells 3 _ rfl) (hcells 4 _ rfl) (hcells 5 _ rfl) (hfr _) (hfr _) (hfr _) (hfr _) hc hc2).mono ?_;rintro e' w' ⟨rfl,W,hW,rfl⟩;refine⟨[x,z],rfl,by simp,by have hb3:=hb2;rw [eqSe_iff.1 hb] at hb3;simp [compactL,compactFrom,hb,hb3],?_,grown_step hW (((grown_setCells _ _ _ _)).trans (grown_setCells _ _ _ _))⟩;have h1:(W.setCells g 2 [.slice D0 q0 e0,.slice D1 q1 e1]).ownsRow base 29 2 _ _ _:=own_put (o:=3) (u:=.slice D1 q1 e1) (own_put (o:=2) (u:=.slice D0 q0 e0) (pw_own_below hown hW));have h:=own_cut (n':=2) (o:=4) (vs:=[.slice none 0 0,.slice none 0 0]) h1 (by simp) (by decide)
        simpa [ex, ey, ez] using h
      | true =>
        rw [hb2] at hc2;refine(compactSe_3yy cap hlt hcap hcm (hcells 0 _ rfl) (hcells 1 _ rfl) (hcells 2 _ rfl) (hcells 3 _ rfl) (hcells 4 _ rfl) (hcells 5 _ rfl) (hfr _) (hfr _) (hfr _) (hfr _) hc hc2).mono ?_;rintro e' w' ⟨rfl,W,hW,rfl⟩;refine⟨[x],rfl,by simp,by have hb3:=hb2;rw [eqSe_iff.1 hb] at hb3;simp [compactL,compactFrom,hb,hb3],?_,grown_step hW (grown_setCells _ _ _ _)⟩;have h:=own_cut (n':=1) (o:=2) (vs:=[.slice none 0 0,.slice none 0 0,.slice none 0 0,.slice none 0 0]) (pw_own_below hown hW) (by simp) (by decide);simpa [ex,ey,ez] using h
end
theorem compactSe_calls{base:Nat}{ok:Nat→Prop}{v:Value}{xs:List S29}{w:World}(hS:Kd.S k29 29 w base ok v xs)(hsz:xs.length≤3) :
    Calls Tryz.prog 180 #[v,.func (.func 181) #[] #[]] w fun e w' => ∃ v',e = .returned v'∧Kd.S k29 29 w' base ok v' (compactL eqSe xs)∧w.grownBy w' v.ownBlock∧v'.ownBlock=v.ownBlock:=by
  by_cases h0:xs=[]
  · subst h0
    obtain⟨A,c,rfl⟩:=Kd.S_slice hS;refine(compactSe_short A _ c w (by simp)).mono ?_;rintro e' w' ⟨rfl,rfl⟩;exact⟨_,rfl,hS,World.grownBy.refl _ _,rfl⟩
  obtain⟨g,cap,f,α,hα,enc,val,idx,ps,rfl,hb,hlt,hok,hM,hown,hv',hi',hl'⟩:=S_packs hS h0;have hown':=hown;rw [← hl'] at hown' ⊢;refine(compactSe_core hM ps (by omega) (fun e=>h0 (by rw [← hv',e];rfl)) hown' hlt).mono ?_;rintro e' w' ⟨d,rfl,hsub,hd,hown2,hgr⟩;refine⟨_,rfl,?_,hgr,rfl⟩;rw [hv'] at hd;rw [← hd];refine S_of_packs hM ?_ rfl hown2 hgr hok;have:=hsub.map idx;rw [hi'] at this;exact this.nodup List.nodup_range
end Go.Proofs.YtpbembafpnknhaaGreat.Pr
namespace Go.Proofs.YtpbembafpnknhaaGreat.Pr
open Sn
open Go.RowKit Go.Proofs.YtpbembafpnknhaaGreatW.PrintWords Go.Proofs.YtpbembafpnknhaaGreatW.PrintLast Go.Proofs.YtpbembafpnknhaaGreatW.PrintMore
attribute [local go_sem] max2_int min2_int max_two min_two max_three min_three max_four min_four
def slices_SortFunc_CmpSentry.f(_l:List S29):Option Unit:=some ()
def slices_CompactFunc_sentries_1.f(l:List S29):Option (List S29):=if l.length≤3 then some (compactL eqSe (sortL cmpSe l)) else none
def norm_sentries.l0:Nat→List (S29)→List (S29)→Int→Int→Option ((List (S29)))
  | 0, _, _, _, _ => none
  | k+1,x3,x7,x8,x9=>if x9<x8 then (if 0≤x9 then (if x9<(x7.length:Int) then ((api_On_174.f ((rd_T29 x7 x9).f0)).bind fun t106=>((api_Cond_175.f ((rd_T29 x7 x9).f1)).bind fun t109=>((slices_SortFunc_cmpOn.f t106).bind fun t113=>((slices_SortFunc_cmpIf.f t109).bind fun t114=>((api_Cond_178.f t114).bind fun t115=>(if x3.length<2932031007402 then (norm_sentries.l0 k (x3 ++ [(⟨t113,t115⟩:S29)]) x7 x8 (wrap64 (x9+1))) else (none))))))) else (none)) else (none)) else ((slices_SortFunc_CmpSentry.f x3).bind fun _=>((slices_CompactFunc_sentries_1.f x3).bind fun t101=>(some t101)))
def norm_sentries.f(k:Nat)(l0:List (S29)):Option ((List (S29))):=norm_sentries.l0 k ([]:List (S29)) l0 (l0.length:Int) 0
theorem norm_sentries.mono_l:∀ k,(∀ y0 y1 y2 y3,LeO (norm_sentries.l0 k y0 y1 y2 y3) (norm_sentries.l0 (k+1) y0 y1 y2 y3))
  | 0 => fun _ _ _ _ r h => by simp [norm_sentries.l0] at h
  | k + 1 => by
    have ih0:=norm_sentries.mono_l k;intro y0 y1 y2 y3;unfold norm_sentries.l0
    repeat' first
    | (with_reducible exact ih0 _ _ _ _)
    | (with_reducible exact LeO.refl _)
    | (with_reducible exact LeO.none _)
    | (with_reducible refine LeO.ite ?_ ?_)
    | (with_reducible refine LeO.bind ?_ (fun _ => ?_))
    | exact ih0 _ _ _ _
    | exact LeO.none _
    | refine LeO.ite ?_ ?_
    | refine LeO.bind ?_ (fun _=>?_)
theorem norm_sentries.mono:∀ a0 k,LeO (norm_sentries.f k a0) (norm_sentries.f (k+1) a0):=by
  intro a0 k;have ih0:=norm_sentries.mono_l k;unfold norm_sentries.f
  repeat' first
      | (with_reducible exact ih0 _ _ _ _)
      | (with_reducible exact LeO.refl _)
      | (with_reducible exact LeO.none _)
      | (with_reducible refine LeO.ite ?_ ?_)
      | (with_reducible refine LeO.bind ?_ (fun _ => ?_))
      | exact ih0 _ _ _ _
      | exact LeO.none _
      | refine LeO.ite ?_ ?_
      | refine LeO.bind ?_ (fun _=>?_)
def norm_sentries.T5:Bool × List (List Nat × List Nat):=(true,[([],[]),([0],[0]),([1],[1]),([],[]),([3],[3]),([4,2],[4]),([2,5],[2,5]),([],[]),([7,6,5,0,1,2,3,4,5,6,7],[6,7])])
def norm_sentries.B5:List Nat:=[0,1,3,0,8,31,63,0,255]
theorem norm_sentries.tab5:rtab .any (opsOf Tryz.f126 5)=norm_sentries.T5:=by kernel_rfl
theorem norm_sentries.bits5:waitsOk norm_sentries.T5.2 norm_sentries.B5=true:=by kernel_rfl
theorem norm_sentries.calls(k : Nat)(A0 : Option Addr)(c0 : Nat)(l0 : List (S29))(r : List (S29))(w : World)(hr0 : Kd.C k29 w A0 l0.length l0)(hc0 : l0.length ≤ c0)(h : norm_sentries.f k l0 = some r) :
  Calls Tryz.prog 126 #[.slice A0 l0.length c0] w fun e w' => ∃ v0_:Value,e = .returned (v0_)∧Kd.S k29 29 w' w.heap.size (fun _=>True) v0_ r∧Below w.heap.size w w':=by
 have hu29:=Tryz.underlying29;have HR0:=am hr0;have HC0:=am hc0;clear hr0 hc0;have HB:=am (Below.refl w.heap.size w);have H:(norm_sentries.l0 k ([]:List (S29)) l0 (l0.length:Int) 0)=some r:=h;clear h;have H':=am H;clear H;go_enter Tryz.func126,Tryz.ntmps126;go_wp2;go_loopg [3,9] k (fun kq v3 v9 w' => ∃ (x3_1:List (S29)) (x9_1:Int),v9 = .int .i64 x9_1∧Aside0 (norm_sentries.l0 kq x3_1 l0 (l0.length:Int) x9_1=some r)∧Aside0 (kq≤k)∧Aside0 (Kd.S k29 29 w' w.heap.size (fun _=>True) v3 x3_1)∧Aside0 (Below w.heap.size w w'))
 case atStart=>exact ⟨(([]:List (S29))),(0),(ze),H',⟨Nat.le_refl _⟩,⟨by first|exact Kd.S_nil _ _ _ _ _|exact Kd.N_nil _ _ _ _ _|exact Kd.V_nil _ _ _ _ _|exact Kd.Q_nil _ _ _ _ _|exact Kd.R_nil _ _ _ _ _⟩,⟨zb⟩⟩
 case round =>
  clear H';obtain⟨x3_1,x9_1,rfl,HA,HK1,HO_3,HB⟩:=hrel
  cases gk with
  | zero => exact absurd HA.out (by simp [norm_sentries.l0])
  | succ k1 =>
   have H:=HA.out;clear HA;simp only [norm_sentries.l0] at H;by_cases c2:x9_1<(l0.length:Int)
   ·
    rw [if_pos c2] at H;have c2b0:=Qb c2;clear c2;by_cases c3:0≤x9_1
    ·
     rw [if_pos c3] at H;have c3b0:=Qb c3;clear c3;by_cases c4:x9_1<(l0.length:Int)
     ·
      rw [if_pos c4] at H;have c4b0:=Qb c4;clear c4;replace H:=Qe H;obtain⟨t106,A50,H⟩:=H;have A5:=am A50;clear A50;replace H:=Qe H;obtain⟨t109,A60,H⟩:=H;have A6:=am A60;clear A60;replace H:=Qe H;obtain⟨t113,A70,H⟩:=H;have A7:=am A70;clear A70;replace H:=Qe H;obtain⟨t114,A80,H⟩:=H;have A8:=am A80;clear A80;replace H:=Qe H;obtain⟨t115,A90,H⟩:=H;have A9:=am A90;clear A90;by_cases c10:x3_1.length<2932031007402
      ·
       rw [if_pos c10] at H;have LMc10:=am c10;clear c10;obtain⟨y118,hy118⟩:∃ y_:List (S29),y_=(x3_1 ++ [(⟨t113,t115⟩:S29)]):=⟨_,rfl⟩;replace H:(norm_sentries.l0 k1 y118 l0 (l0.length:Int) (wrap64 (x9_1+1)))=some r:=by first|(rw [hy118];with_reducible exact H)|(have H2_:=(Option.bind_some _ _).symm.trans H;rw [hy118];with_reducible exact H2_)|(have H2_:=(Option.bind_some _ _).symm.trans H;with_reducible exact H2_)|with_reducible exact H|(rw [hy118];exact H)|exact H
       have Ny118:=am hy118;clear hy118;have H':=am H;clear H;have p104:0≤(x9_1:Int):=Qo;have q104:x9_1<(l0.length:Int):=Qo;obtain⟨ad104,A104_0,c104_0,A104_1,c104_1,e104,hx104_0,hx104_1,hl104_0,hi104_0,hl104_1,hi104_1⟩:=at_T29 HR0.out x9_1 p104 q104;cases e104;replace hx104_0:=ba HB hx104_0;replace hx104_1:=ba HB hx104_1;have HR104_0:=am hi104_0;have HC104_0:=am hl104_0;clear hi104_0 hl104_0;have HR104_1:=am hi104_1;have HC104_1:=am hl104_1;clear hi104_1 hl104_1;replace p104:=eq_true p104;replace q104:=eq_true q104;try go_wp2_with (first|((with_reducible refine gd_ 5 ?_);refine bx_ 5 #[.slice none 0 0,.slice none 0 0] 29 ?_;intro gb105 hg w11 hbox hb;replace HO_3:=am (Kd.S_below (Kd.S_elderB (zS HO_3.out) gb105 (Nat.le_of_eq hg.symm)) hb);have BK105:=am (hbox);have GE105:=am (zg:w.heap.size≤gb105);replace HB:=am (below_step (zb) hb);clear hb hbox hg;obtain⟨hcz12_0,hcz12_1,hfz12_0,hfz12_1⟩:=cf2 BK105.out))
       have n0_:Aside0 (Kd.S k29 29 ((w11.setCell ⟨gb105,0,none⟩ (.slice A104_0 ((rd_T29 l0 x9_1).f0).length c104_0)).setCell ⟨gb105,1,none⟩ (.slice A104_1 ((rd_T29 l0 x9_1).f1).length c104_1)) w.heap.size (fun k_=>k_≠gb105) u3 x3_1):=⟨by refine zS ?_;exact Kd.S_mono (Kd.S_far (p:=⟨gb105,1,none⟩) (Kd.S_far (p:=⟨gb105,0,none⟩) (Kd.S_mono HO_3.out (fun k_ hk=>(⟨hk,hk.2⟩:_∧k_≠gb105))) (fun _ hk=>hk.2) (.slice A104_0 ((rd_T29 l0 x9_1).f0).length c104_0)) (fun _ hk=>hk.2) (.slice A104_1 ((rd_T29 l0 x9_1).f1).length c104_1)) (fun _ hk=>hk.1.2)⟩;have n1_:Aside0 (((w11.setCell ⟨gb105,0,none⟩ (.slice A104_0 ((rd_T29 l0 x9_1).f0).length c104_0)).setCell ⟨gb105,1,none⟩ (.slice A104_1 ((rd_T29 l0 x9_1).f1).length c104_1)).heap[gb105]? = some (.cells #[.slice A104_0 ((rd_T29 l0 x9_1).f0).length c104_0,.slice A104_1 ((rd_T29 l0 x9_1).f1).length c104_1] 29 (0,0))):=⟨by refine zl ?_;refine blk_put (cs:=#[.slice A104_0 ((rd_T29 l0 x9_1).f0).length c104_0,.slice none 0 0]) ?_ 1 _ rfl;refine zl ?_;refine blk_put (cs:=#[.slice none 0 0,.slice none 0 0]) ?_ 0 _ rfl;refine zl ?_;exact BK105.out⟩;have n2_:Aside0 (Below w.heap.size w ((w11.setCell ⟨gb105,0,none⟩ (.slice A104_0 ((rd_T29 l0 x9_1).f0).length c104_0)).setCell ⟨gb105,1,none⟩ (.slice A104_1 ((rd_T29 l0 x9_1).f1).length c104_1))):=⟨zb⟩
       (try clear HO_3)
       (try clear BK105)
       (try clear HB)
       generalize ((w11.setCell ⟨gb105,0,none⟩ (.slice A104_0 ((rd_T29 l0 x9_1).f0).length c104_0)).setCell ⟨gb105,1,none⟩ (.slice A104_1 ((rd_T29 l0 x9_1).f1).length c104_1))=w13 at n0_ n1_ n2_ ⊢;have HO_3:=n0_;have BK105:=n1_;have HB:=n2_;clear n0_ n1_ n2_;replace HO_3:=am (Kd.S_drew HO_3.out);replace BK105:=am (blk_drew BK105.out);replace HB:=am (below_drew1 HB.out);refine start_ (n:=9) (S:=fun w'=>w'.cell? ⟨gb105,0,none⟩=some (.slice A104_0 ((rd_T29 l0 x9_1).f0).length c104_0)∧w'.cell? ⟨gb105,1,none⟩=some (.slice A104_1 ((rd_T29 l0 x9_1).f1).length c104_1)) (ds:=[]) #[false,false,false,false,false,false,false,false,false] (by kernel_rfl) rfl rfl ⟨bc BK105 0,bc BK105 1⟩ (fun hHeld=>?_);refine with_tabW norm_sentries.tab5 norm_sentries.bits5 (fun HT_ HW_=>?_);generalize w13.drew=w14 at HO_3 BK105 HB hHeld ⊢;refine pz_ 0 13 9 1 ?_;refine pz_ 3 16 9 9 ?_;refine tz_ 1 14 9 11 ?_;refine tz_ 4 17 9 27 ?_;refine join_ (σ:=Value × Value × Nat) 1 #[true,true,true,true,true,true,true,true,false] (fun s_=>[(15,s_.1),(18,s_.2.1),(6,.pointer (some ⟨s_.2.2,0,none⟩)),(19,.agg #[s_.1,s_.2.1])]) (fun s_ w'=>(w'.cell? ⟨gb105,0,none⟩=some (.slice A104_0 ((rd_T29 l0 x9_1).f0).length c104_0)∧w'.cell? ⟨gb105,1,none⟩=some (.slice A104_1 ((rd_T29 l0 x9_1).f1).length c104_1))∧(Kd.R k78 78 w' w.heap.size (fun _=>True) s_.1 t106)∧(Kd.R k93 93 w' w.heap.size (fun _=>True) s_.2.1 t109)∧(Kd.S k29 29 w' w.heap.size (fun k_=>some k_≠(s_.1:Value).ownBlock∧some k_≠(s_.2.1:Value).ownBlock∧k_≠gb105∧k_≠s_.2.2) u3 x3_1)∧(w'.heap[gb105]? = some (.cells #[.slice A104_0 ((rd_T29 l0 x9_1).f0).length c104_0,.slice A104_1 ((rd_T29 l0 x9_1).f1).length c104_1] 29 (0,0)))∧(w'.heap[s_.2.2]? = some (.cells #[.slice none 0 0,.slice none 0 0] 29 (0,0)))∧(w.heap.size≤s_.2.2)∧(w.heap.size≤s_.2.2)∧(gb105≠s_.2.2)∧(s_.2.2≠gb105)∧(Below w.heap.size w w')) ?_ ?_
       rotate_left
       ·
        intro hCont;refine two_ (i:=2) (j:=7) (Ni:=some 15) (Nj:=some 6) #[true,true,true,true,true,false,false,false,false] #[true,true,false,true,true,false,false,true,false] rfl rfl rfl rfl (two_of HT_.out (by kernel_rfl)) (by decide) (by decide) (fun K hK=>?_) (fun K hK=>?_)
        ·
         skip
         refine goes_ Tryz.func174 (by kernel_rfl) rfl #[.slice A104_0 ((rd_T29 l0 x9_1).f0).length c104_0] (by rfl) rfl rfl (za) ?_;with_reducible refine (api_On_174.calls _ _ ((rd_T29 l0 x9_1).f0) t106 _ ?side1 ?side2 A5.out).mono ?_
         (case side1=>exact zc (Kd.C_below HR104_0.out HB.out))
         (case side2=>exact HC104_0.out)
         rintro e w15 ⟨v107,rfl,ho0,hb⟩;refine⟨_,rfl,?_⟩;replace HO_3:=am (Kd.S_elder' (zS HO_3.out) (Kd.R_base ho0) hb);have HO108:=am (Kd.R_lower ho0 (below_size (zb)));replace BK105:=am (zw BK105.out hb);replace HB:=am (below_step (zb) hb)
         (try clear hb)
         (try clear hb2)
         (try clear hk)
         (try clear hi)
         (try clear ho0)
         refine hK.out _ _ ⟨bc BK105 0,bc BK105 1⟩ (fun hHeld=>?_);clear hK K;refine nz_ 15 ?_;refine two_ (i:=5) (j:=7) (Ni:=some 18) (Nj:=some 6) #[true,true,true,true,true,true,false,false,false] #[true,true,true,true,true,false,false,true,false] rfl rfl rfl rfl (two_of HT_.out (by kernel_rfl)) (by decide) (by decide) (fun K hK=>?_) (fun K hK=>?_)
         ·
          skip
          refine goes_ Tryz.func175 (by kernel_rfl) rfl #[.slice A104_1 ((rd_T29 l0 x9_1).f1).length c104_1] (by rfl) rfl rfl (za) ?_;with_reducible refine (api_Cond_175.calls _ _ ((rd_T29 l0 x9_1).f1) t109 _ ?side1 ?side2 A6.out).mono ?_
          (case side1=>exact zc (Kd.C_below HR104_1.out HB.out))
          (case side2=>exact HC104_1.out)
          rintro e w16 ⟨v110,rfl,ho0,hb⟩;refine⟨_,rfl,?_⟩;replace HO_3:=am (Kd.S_elder' (zS HO_3.out) (Kd.R_base ho0) hb);replace HO108:=am (Kd.R_below (zR HO108.out) hb);have HO111:=am (Kd.R_lower ho0 (below_size (zb)));replace BK105:=am (zw BK105.out hb);replace HB:=am (below_step (zb) hb)
          (try clear hb)
          (try clear hb2)
          (try clear hk)
          (try clear hi)
          (try clear ho0)
          obtain⟨Ao17,co17,eo17⟩:=Kd.R_slice HO111.out
          (first|subst eo17|(injection eo17 with f1_ f2_ f3_;have f4_:=f1_.symm;have f5_:=f3_.symm;clear f1_ f2_ f3_;subst f4_;subst f5_))
          obtain⟨Ao18,co18,eo18⟩:=Kd.R_slice HO108.out
          (first|subst eo18|(injection eo18 with f1_ f2_ f3_;have f4_:=f1_.symm;have f5_:=f3_.symm;clear f1_ f2_ f3_;subst f4_;subst f5_))
          refine hK.out _ _ ⟨bc BK105 0,bc BK105 1⟩ (fun hHeld=>?_);clear hK K;refine nz_ 18 ?_;refine pz_ 6 19 9 127 ?_;refine oz_ 7 6 9 255 (fun K hK=>?_);refine box_step ?hg (N:=6) ?hd (cs:=#[.slice none 0 0,.slice none 0 0]) (t:=29) ?hr ?_;(case hd=>rfl);(case hg=>rfl);(case hr=>first|(go_simp;done)|(go_simp;rfl));intro gb112 hg w19 hbox hb;replace HO_3:=am (Kd.S_below (Kd.S_elderB (zS HO_3.out) gb112 (Nat.le_of_eq hg.symm)) hb);replace HO108:=am (Kd.R_below (zR HO108.out) hb);replace HO111:=am (Kd.R_below (zR HO111.out) hb);have BK112:=am (hbox);have GW112:=am (zg:w.heap.size≤gb112);have GE112:=am (zg:w.heap.size≤gb112);replace HB:=am (below_step (zb) hb);have NB105_112:=am ((zn BK105.out:gb105≠gb112));have NB112_105:=am ((zm BK105.out:gb112≠gb105));replace BK105:=am (zw BK105.out hb);clear hb hbox hg;refine hK.out _ _ ⟨bc BK105 0,bc BK105 1⟩ (fun hHeld=>?_);clear hK K;refine nz_ 6 ?_;exact norm_ (by simp only [putAll,Act.put,List.setIfInBounds_toArray,List.set_cons_zero,List.set_cons_succ]) (hCont (.slice Ao18 t106.length co18,.slice Ao17 t109.length co17,gb112) _ ⟨hHeld,(zR HO108.out),(zR HO111.out),(by refine zS ?_;exact Kd.S_mono HO_3.out (fun _ hk=>⟨hk.1.1.2,⟨hk.1.2,⟨hk.1.1.1,hk.2⟩⟩⟩)),(zl BK105.out),(zl BK112.out),GW112.out,GE112.out,NB105_112.out,NB112_105.out,(zb)⟩)
         skip
         refine box_step ?hg (N:=6) ?hd (cs:=#[.slice none 0 0,.slice none 0 0]) (t:=29) ?hr ?_;(case hd=>rfl);(case hg=>rfl);(case hr=>first|(go_simp;done)|(go_simp;rfl));intro gb112 hg w16 hbox hb;replace HO_3:=am (Kd.S_below (Kd.S_elderB (zS HO_3.out) gb112 (Nat.le_of_eq hg.symm)) hb);replace HO108:=am (Kd.R_below (zR HO108.out) hb);have BK112:=am (hbox);have GW112:=am (zg:w.heap.size≤gb112);have GE112:=am (zg:w.heap.size≤gb112);replace HB:=am (below_step (zb) hb);have NB105_112:=am ((zn BK105.out:gb105≠gb112));have NB112_105:=am ((zm BK105.out:gb112≠gb105));replace BK105:=am (zw BK105.out hb);clear hb hbox hg;refine hK.out _ _ ⟨bc BK105 0,bc BK105 1⟩ (fun hHeld=>?_);clear hK K;refine nz_ 6 ?_;refine oz_ 5 18 9 191 (fun K hK=>?_);refine goes_ Tryz.func175 (by kernel_rfl) rfl #[.slice A104_1 ((rd_T29 l0 x9_1).f1).length c104_1] (by rfl) rfl rfl (za) ?_;with_reducible refine (api_Cond_175.calls _ _ ((rd_T29 l0 x9_1).f1) t109 _ ?side1 ?side2 A6.out).mono ?_
         (case side1=>exact zc (Kd.C_below HR104_1.out HB.out))
         (case side2=>exact HC104_1.out)
         rintro e w17 ⟨v110,rfl,ho0,hb⟩;refine⟨_,rfl,?_⟩;replace HO_3:=am (Kd.S_elder' (zS HO_3.out) (Kd.R_base ho0) hb);replace HO108:=am (Kd.R_below (zR HO108.out) hb);have HO111:=am (Kd.R_lower ho0 (below_size (zb)));replace BK105:=am (zw BK105.out hb);replace BK112:=am (zw BK112.out hb);replace HB:=am (below_step (zb) hb)
         (try clear hb)
         (try clear hb2)
         (try clear hk)
         (try clear hi)
         (try clear ho0)
         obtain⟨Ao18,co18,eo18⟩:=Kd.R_slice HO111.out
         (first|subst eo18|(injection eo18 with f1_ f2_ f3_;have f4_:=f1_.symm;have f5_:=f3_.symm;clear f1_ f2_ f3_;subst f4_;subst f5_))
         obtain⟨Ao19,co19,eo19⟩:=Kd.R_slice HO108.out
         (first|subst eo19|(injection eo19 with f1_ f2_ f3_;have f4_:=f1_.symm;have f5_:=f3_.symm;clear f1_ f2_ f3_;subst f4_;subst f5_))
         refine hK.out _ _ ⟨bc BK105 0,bc BK105 1⟩ (fun hHeld=>?_);clear hK K;refine nz_ 18 ?_;refine pz_ 6 19 9 255 ?_;exact norm_ (by simp only [putAll,Act.put,List.setIfInBounds_toArray,List.set_cons_zero,List.set_cons_succ]) (hCont (.slice Ao19 t106.length co19,.slice Ao18 t109.length co18,gb112) _ ⟨hHeld,(zR HO108.out),(zR HO111.out),(by refine zS ?_;exact Kd.S_mono HO_3.out (fun _ hk=>⟨hk.1.1.2,⟨hk.2,⟨hk.1.1.1,hk.1.2⟩⟩⟩)),(zl BK105.out),(zl BK112.out),GW112.out,GE112.out,NB105_112.out,NB112_105.out,(zb)⟩)
        skip
        refine box_step ?hg (N:=6) ?hd (cs:=#[.slice none 0 0,.slice none 0 0]) (t:=29) ?hr ?_;(case hd=>rfl);(case hg=>rfl);(case hr=>first|(go_simp;done)|(go_simp;rfl));intro gb112 hg w15 hbox hb;replace HO_3:=am (Kd.S_below (Kd.S_elderB (zS HO_3.out) gb112 (Nat.le_of_eq hg.symm)) hb);have BK112:=am (hbox);have GW112:=am (zg:w.heap.size≤gb112);have GE112:=am (zg:w.heap.size≤gb112);replace HB:=am (below_step (zb) hb);have NB105_112:=am ((zn BK105.out:gb105≠gb112));have NB112_105:=am ((zm BK105.out:gb112≠gb105));replace BK105:=am (zw BK105.out hb);clear hb hbox hg;refine hK.out _ _ ⟨bc BK105 0,bc BK105 1⟩ (fun hHeld=>?_);clear hK K;refine nz_ 6 ?_;refine oz_ 2 15 9 159 (fun K hK=>?_);refine goes_ Tryz.func174 (by kernel_rfl) rfl #[.slice A104_0 ((rd_T29 l0 x9_1).f0).length c104_0] (by rfl) rfl rfl (za) ?_;with_reducible refine (api_On_174.calls _ _ ((rd_T29 l0 x9_1).f0) t106 _ ?side1 ?side2 A5.out).mono ?_
        (case side1=>exact zc (Kd.C_below HR104_0.out HB.out))
        (case side2=>exact HC104_0.out)
        rintro e w16 ⟨v107,rfl,ho0,hb⟩;refine⟨_,rfl,?_⟩;replace HO_3:=am (Kd.S_elder' (zS HO_3.out) (Kd.R_base ho0) hb);have HO108:=am (Kd.R_lower ho0 (below_size (zb)));replace BK105:=am (zw BK105.out hb);replace BK112:=am (zw BK112.out hb);replace HB:=am (below_step (zb) hb)
        (try clear hb)
        (try clear hb2)
        (try clear hk)
        (try clear hi)
        (try clear ho0)
        refine hK.out _ _ ⟨bc BK105 0,bc BK105 1⟩ (fun hHeld=>?_);clear hK K;refine nz_ 15 ?_;refine oz_ 5 18 9 191 (fun K hK=>?_);refine goes_ Tryz.func175 (by kernel_rfl) rfl #[.slice A104_1 ((rd_T29 l0 x9_1).f1).length c104_1] (by rfl) rfl rfl (za) ?_;with_reducible refine (api_Cond_175.calls _ _ ((rd_T29 l0 x9_1).f1) t109 _ ?side1 ?side2 A6.out).mono ?_
        (case side1=>exact zc (Kd.C_below HR104_1.out HB.out))
        (case side2=>exact HC104_1.out)
        rintro e w17 ⟨v110,rfl,ho0,hb⟩;refine⟨_,rfl,?_⟩;replace HO_3:=am (Kd.S_elder' (zS HO_3.out) (Kd.R_base ho0) hb);replace HO108:=am (Kd.R_below (zR HO108.out) hb);have HO111:=am (Kd.R_lower ho0 (below_size (zb)));replace BK105:=am (zw BK105.out hb);replace BK112:=am (zw BK112.out hb);replace HB:=am (below_step (zb) hb)
        (try clear hb)
        (try clear hb2)
        (try clear hk)
        (try clear hi)
        (try clear ho0)
        obtain⟨Ao18,co18,eo18⟩:=Kd.R_slice HO111.out
        (first|subst eo18|(injection eo18 with f1_ f2_ f3_;have f4_:=f1_.symm;have f5_:=f3_.symm;clear f1_ f2_ f3_;subst f4_;subst f5_))
        obtain⟨Ao19,co19,eo19⟩:=Kd.R_slice HO108.out
        (first|subst eo19|(injection eo19 with f1_ f2_ f3_;have f4_:=f1_.symm;have f5_:=f3_.symm;clear f1_ f2_ f3_;subst f4_;subst f5_))
        refine hK.out _ _ ⟨bc BK105 0,bc BK105 1⟩ (fun hHeld=>?_);clear hK K;refine nz_ 18 ?_;refine pz_ 6 19 9 255 ?_;exact norm_ (by simp only [putAll,Act.put,List.setIfInBounds_toArray,List.set_cons_zero,List.set_cons_succ]) (hCont (.slice Ao19 t106.length co19,.slice Ao18 t109.length co18,gb112) _ ⟨hHeld,(zR HO108.out),(zR HO111.out),(by refine zS ?_;exact Kd.S_mono HO_3.out (fun _ hk=>⟨hk.1.2,⟨hk.2,⟨hk.1.1.1,hk.1.1.2⟩⟩⟩)),(zl BK105.out),(zl BK112.out),GW112.out,GE112.out,NB105_112.out,NB112_105.out,(zb)⟩)
       rintro ⟨v107,v110,gb112⟩ w20 ⟨hS_,h0_,h1_,h2_,h3_,h4_,h5_,h6_,h7_,h8_,h9_⟩;have n0_:Aside0 (Kd.R k78 78 w20 w.heap.size (fun _=>True) v107 t106):=⟨h0_⟩;have n1_:Aside0 (Kd.R k93 93 w20 w.heap.size (fun _=>True) v110 t109):=⟨h1_⟩;have n2_:Aside0 (Kd.S k29 29 w20 w.heap.size (fun k_=>some k_≠(v107:Value).ownBlock∧some k_≠(v110:Value).ownBlock∧k_≠gb105∧k_≠gb112) u3 x3_1):=⟨h2_⟩;have n3_:Aside0 (w20.heap[gb105]? = some (.cells #[.slice A104_0 ((rd_T29 l0 x9_1).f0).length c104_0,.slice A104_1 ((rd_T29 l0 x9_1).f1).length c104_1] 29 (0,0))):=⟨h3_⟩;have n4_:Aside0 (w20.heap[gb112]? = some (.cells #[.slice none 0 0,.slice none 0 0] 29 (0,0))):=⟨h4_⟩;have n5_:Aside0 (w.heap.size≤gb112):=⟨h5_⟩;have n6_:Aside0 (w.heap.size≤gb112):=⟨h6_⟩;have n7_:Aside0 (gb105≠gb112):=⟨h7_⟩;have n8_:Aside0 (gb112≠gb105):=⟨h8_⟩;have n9_:Aside0 (Below w.heap.size w w20):=⟨h9_⟩;clear HO_3;clear BK105;clear HB;clear h0_ h1_ h2_ h3_ h4_ h5_ h6_ h7_ h8_ h9_;have HO108:=n0_;have HO111:=n1_;have HO_3:=n2_;have BK105:=n3_;have BK112:=n4_;have GW112:=n5_;have GE112:=n6_;have NB105_112:=n7_;have NB112_105:=n8_;have HB:=n9_;clear n0_ n1_ n2_ n3_ n4_ n5_ n6_ n7_ n8_ n9_;have hHeld:w20.cell? ⟨gb105,0,none⟩=some (.slice A104_0 ((rd_T29 l0 x9_1).f0).length c104_0)∧w20.cell? ⟨gb105,1,none⟩=some (.slice A104_1 ((rd_T29 l0 x9_1).f1).length c104_1):=hS_;obtain⟨Ao21,co21,eo21⟩:=Kd.R_slice HO111.out
       (first|subst eo21|(injection eo21 with f1_ f2_ f3_;have f4_:=f1_.symm;have f5_:=f3_.symm;clear f1_ f2_ f3_;subst f4_;subst f5_))
       obtain⟨Ao22,co22,eo22⟩:=Kd.R_slice HO108.out
       (first|subst eo22|(injection eo22 with f1_ f2_ f3_;have f4_:=f1_.symm;have f5_:=f3_.symm;clear f1_ f2_ f3_;subst f4_;subst f5_))
       refine norm_ (a':=?_) ?_ ?_
       rotate_left
       ·
        simp only [putAll,Act.put,List.setIfInBounds_toArray,List.set_cons_zero,List.set_cons_succ];rfl
       refine one_ (i:=8) (N:=none) #[true,true,true,true,true,true,true,true,true] rfl rfl (one_of HT_.out (by kernel_rfl)) (by decide) (fun K hK=>?_);have hs23:w20.cell? ⟨gb112,0,none⟩=some (.slice none 0 0):=bc BK112 0;have hfs23:=blk_frozen BK112.out 0;have hns23_0:=NB105_112.out;have hms23_0:=NB112_105.out;have hs24:w20.cell? ⟨gb112,1,none⟩=some (.slice none 0 0):=bc BK112 1;have hfs24:=blk_frozen BK112.out 1;have hns24_0:=NB105_112.out;have hms24_0:=NB112_105.out;refine skip_ (w1:=?_) (by rfl) rfl ?_ ?_
       rotate_left
       ·
        go_simp
        rfl
       refine hK.out _ _ ⟨((cell_far (p:=⟨gb112,_,none⟩) NB105_112.out _).trans (((cell_far (p:=⟨gb112,_,none⟩) NB105_112.out _).trans (hHeld.1)))),((cell_far (p:=⟨gb112,_,none⟩) NB105_112.out _).trans (((cell_far (p:=⟨gb112,_,none⟩) NB105_112.out _).trans (hHeld.2))))⟩ (fun hHeld=>?_);clear hK K;refine done_ (done_of HT_.out (by kernel_rfl)) ?_;have n0_:Aside0 (Kd.S k29 29 ((w20.setCell ⟨gb112,0,none⟩ (.slice Ao22 t106.length co22)).setCell ⟨gb112,1,none⟩ (.slice Ao21 t109.length co21)) w.heap.size (fun k_=>some k_≠(.slice Ao22 t106.length co22:Value).ownBlock∧some k_≠(.slice Ao21 t109.length co21:Value).ownBlock∧k_≠gb105∧k_≠gb112) u3 x3_1):=⟨by refine zS ?_;exact Kd.S_mono (Kd.S_far (p:=⟨gb112,1,none⟩) (Kd.S_far (p:=⟨gb112,0,none⟩) (Kd.S_mono HO_3.out (fun k_ hk=>(⟨hk,hk.2.2.2⟩:_∧k_≠gb112))) (fun _ hk=>hk.2) (.slice Ao22 t106.length co22)) (fun _ hk=>hk.2) (.slice Ao21 t109.length co21)) (fun _ hk=>⟨hk.1.1,⟨hk.1.2.1,⟨hk.1.2.2.1,hk.1.2.2.2⟩⟩⟩)⟩;have n1_:Aside0 (Kd.R k78 78 ((w20.setCell ⟨gb112,0,none⟩ (.slice Ao22 t106.length co22)).setCell ⟨gb112,1,none⟩ (.slice Ao21 t109.length co21)) w.heap.size (fun _=>True) (.slice Ao22 t106.length co22) t106):=⟨by refine zR ?_;exact Kd.R_mono (Kd.R_far (p:=⟨gb112,1,none⟩) (Kd.R_far (p:=⟨gb112,0,none⟩) (Kd.R_types HO108.out BK112.out (by decide)) (fun _ hk=>hk.2) (.slice Ao22 t106.length co22)) (fun _ hk=>hk.2) (.slice Ao21 t109.length co21)) (fun _ hk=>trivial)⟩;have n2_:Aside0 (Kd.R k93 93 ((w20.setCell ⟨gb112,0,none⟩ (.slice Ao22 t106.length co22)).setCell ⟨gb112,1,none⟩ (.slice Ao21 t109.length co21)) w.heap.size (fun _=>True) (.slice Ao21 t109.length co21) t109):=⟨by refine zR ?_;exact Kd.R_mono (Kd.R_far (p:=⟨gb112,1,none⟩) (Kd.R_far (p:=⟨gb112,0,none⟩) (Kd.R_types HO111.out BK112.out (by decide)) (fun _ hk=>hk.2) (.slice Ao22 t106.length co22)) (fun _ hk=>hk.2) (.slice Ao21 t109.length co21)) (fun _ hk=>trivial)⟩;have n3_:Aside0 (((w20.setCell ⟨gb112,0,none⟩ (.slice Ao22 t106.length co22)).setCell ⟨gb112,1,none⟩ (.slice Ao21 t109.length co21)).heap[gb105]? = some (.cells #[.slice A104_0 ((rd_T29 l0 x9_1).f0).length c104_0,.slice A104_1 ((rd_T29 l0 x9_1).f1).length c104_1] 29 (0,0))):=⟨by refine zl ?_;refine blk_far ?_ NB105_112.out _;refine zl ?_;refine blk_far ?_ NB105_112.out _;refine zl ?_;exact BK105.out⟩;have n4_:Aside0 (((w20.setCell ⟨gb112,0,none⟩ (.slice Ao22 t106.length co22)).setCell ⟨gb112,1,none⟩ (.slice Ao21 t109.length co21)).heap[gb112]? = some (.cells #[.slice Ao22 t106.length co22,.slice Ao21 t109.length co21] 29 (0,0))):=⟨by refine zl ?_;refine blk_put (cs:=#[.slice Ao22 t106.length co22,.slice none 0 0]) ?_ 1 _ rfl;refine zl ?_;refine blk_put (cs:=#[.slice none 0 0,.slice none 0 0]) ?_ 0 _ rfl;refine zl ?_;exact BK112.out⟩;have n5_:Aside0 (Below w.heap.size w ((w20.setCell ⟨gb112,0,none⟩ (.slice Ao22 t106.length co22)).setCell ⟨gb112,1,none⟩ (.slice Ao21 t109.length co21))):=⟨zb⟩
       (try clear HO_3)
       (try clear HO108)
       (try clear HO111)
       (try clear BK105)
       (try clear BK112)
       (try clear HB)
       generalize ((w20.setCell ⟨gb112,0,none⟩ (.slice Ao22 t106.length co22)).setCell ⟨gb112,1,none⟩ (.slice Ao21 t109.length co21))=w25 at n0_ n1_ n2_ n3_ n4_ n5_ ⊢;have HO_3:=n0_;have HO108:=n1_;have HO111:=n2_;have BK105:=n3_;have BK112:=n4_;have HB:=n5_;clear n0_ n1_ n2_ n3_ n4_ n5_;obtain⟨hcz27_0,hcz27_1,hfz27_0,hfz27_1⟩:=cf2 BK112.out;try go_wp2_with (first|((with_reducible refine gc_ 176 ?_);refine goesL_ (some 22) rfl rfl Tryz.func176 (by kernel_rfl) rfl #[.slice Ao22 t106.length co22,(.func (.func 66) #[] #[])] rfl (za) ?_;(with_reducible refine (slices_SortFunc_cmpOn.calls (fun k_=>some k_=(.slice Ao22 t106.length co22:Value).ownBlock) (.slice Ao22 t106.length co22) t106 t113 w _ ?side1 ?side2 A7.out).mono ?_);(case side1=>repeat (first|(with_reducible first|exact HB.out|apply below_alloc|apply pw_below_drewN|apply below_drew1|refine below_set ?_ GE105.out|refine below_set ?_ GE112.out)|exact HB.out));(case side2=>exact Kd.R_tight rfl HO108.out);rintro e w28 ⟨rfl,hy0,hb,hkp⟩;refine⟨_,rfl,?_⟩;replace HO_3:=am (Kd.S_mono (ok':=fun k_=>some k_≠(.slice Ao22 t106.length co22:Value).ownBlock∧some k_≠(.slice Ao21 t109.length co21:Value).ownBlock∧k_≠gb105∧k_≠gb112) (Kd.S_keptB (HO_3.out) hkp (fun k_ hk_ hs_=>(hk_.1) hs_)) (fun k_ hk_=>⟨hk_.1.1,hk_.1.2.1,hk_.1.2.2.1,hk_.1.2.2.2⟩));replace BK105:=am (blk_kept (zl BK105.out) hkp (fun hs_=>(fun e_=>(Kd.R_ne HO108.out BK105.out (by decide)) e_) hs_));replace HO111:=am (Kd.R_mono (ok':=fun k_=>True) (Kd.R_keptB ((Kd.R_apart' HO111.out (Kd.R_typed HO108.out) (by decide))) hkp (fun k_ hk_ hs_=>(hk_.2) hs_)) (fun k_ hk_=>trivial));replace BK112:=am (blk_kept (zl BK112.out) hkp (fun hs_=>(fun e_=>(Kd.R_ne HO108.out BK112.out (by decide)) e_) hs_));replace HO108:=am (Kd.R_reok rfl hy0 (fun k_ e_=>HO108.out.1 k_ e_));replace HB:=am (hb);(try clear hb);(try clear hkp);(try clear hy0);obtain⟨hcz29_0,hcz29_1,hfz29_0,hfz29_1⟩:=cf2 BK112.out)|((with_reducible refine gc_ 177 ?_);refine goesL_ (some 25) rfl rfl Tryz.func177 (by kernel_rfl) rfl #[.slice Ao21 t109.length co21,(.func (.func 68) #[] #[])] rfl (za) ?_;(with_reducible refine (slices_SortFunc_cmpIf.calls (fun k_=>some k_=(.slice Ao21 t109.length co21:Value).ownBlock) (.slice Ao21 t109.length co21) t109 t114 w _ ?side1 ?side2 A8.out).mono ?_);(case side1=>repeat (first|(with_reducible first|exact HB.out|apply below_alloc|apply pw_below_drewN|apply below_drew1|refine below_set ?_ GE105.out|refine below_set ?_ GE112.out)|exact HB.out));(case side2=>exact Kd.R_tight rfl HO111.out);rintro e w30 ⟨rfl,hy0,hb,hkp⟩;refine⟨_,rfl,?_⟩;replace HO_3:=am (Kd.S_mono (ok':=fun k_=>some k_≠(.slice Ao22 t106.length co22:Value).ownBlock∧some k_≠(.slice Ao21 t109.length co21:Value).ownBlock∧k_≠gb105∧k_≠gb112) (Kd.S_keptB (HO_3.out) hkp (fun k_ hk_ hs_=>(hk_.2.1) hs_)) (fun k_ hk_=>⟨hk_.1.1,hk_.1.2.1,hk_.1.2.2.1,hk_.1.2.2.2⟩));replace BK105:=am (blk_kept (zl BK105.out) hkp (fun hs_=>(fun e_=>(Kd.R_ne HO111.out BK105.out (by decide)) e_) hs_));replace HO108:=am (Kd.R_mono (ok':=fun k_=>True) (Kd.R_keptB ((Kd.R_apart' HO108.out (Kd.R_typed HO111.out) (by decide))) hkp (fun k_ hk_ hs_=>(hk_.2) hs_)) (fun k_ hk_=>trivial));replace BK112:=am (blk_kept (zl BK112.out) hkp (fun hs_=>(fun e_=>(Kd.R_ne HO111.out BK112.out (by decide)) e_) hs_));replace HO111:=am (Kd.R_reok rfl hy0 (fun k_ e_=>HO111.out.1 k_ e_));replace HB:=am (hb);(try clear hb);(try clear hkp);(try clear hy0);obtain⟨hcz31_0,hcz31_1,hfz31_0,hfz31_1⟩:=cf2 BK112.out)|((with_reducible refine gc_ 178 ?_);refine goesL_ (some 28) rfl rfl Tryz.func178 (by kernel_rfl) rfl #[.slice Ao21 t109.length co21] rfl (za) ?_;(with_reducible refine (api_Cond_178.calls (fun k_=>some k_=(.slice Ao21 t109.length co21:Value).ownBlock) (.slice Ao21 t109.length co21) t114 t115 w _ ?side1 ?side2 A9.out).mono ?_);(case side1=>repeat (first|(with_reducible first|exact HB.out|apply below_alloc|apply pw_below_drewN|apply below_drew1|refine below_set ?_ GE105.out|refine below_set ?_ GE112.out)|exact HB.out));(case side2=>exact Kd.R_tight rfl HO111.out);rintro e w32 ⟨v116,rfl,ho0,hb,hkp⟩;refine⟨_,rfl,?_⟩;replace HO_3:=am (Kd.S_mono (ok':=fun k_=>some k_≠(.slice Ao22 t106.length co22:Value).ownBlock∧k_≠gb105∧k_≠gb112∧some k_≠(v116:Value).ownBlock) (Kd.S_keptB (HO_3.out) hkp (fun k_ hk_ hs_=>(hk_.2.1) hs_)) (fun k_ hk_=>⟨hk_.1.1,hk_.1.2.2.1,hk_.1.2.2.2,fun e_=>Or.elim (ho0.1 k_ e_.symm) (fun hs_=>hk_.2.1 hs_) (fun hn_=>Nat.not_le.2 hk_.2.2 hn_)⟩));replace BK105:=am (blk_kept (zl BK105.out) hkp (fun hs_=>(fun e_=>(Kd.R_ne HO111.out BK105.out (by decide)) e_) hs_));replace HO108:=am (Kd.R_mono (ok':=fun k_=>True) (Kd.R_keptB ((Kd.R_apart' HO108.out (Kd.R_typed HO111.out) (by decide))) hkp (fun k_ hk_ hs_=>(hk_.2) hs_)) (fun k_ hk_=>trivial));replace BK112:=am (blk_kept (zl BK112.out) hkp (fun hs_=>(fun e_=>(Kd.R_ne HO111.out BK112.out (by decide)) e_) hs_));have HO117:=am (Kd.R_mono (ok':=fun k_=>True) ho0 (fun k_ hk_=>trivial));replace HB:=am (hb);clear HO111;(try clear hb);(try clear hkp);(try clear ho0);obtain⟨Ao33,co33,eo33⟩:=Kd.R_slice HO117.out;subst eo33;obtain⟨hcz34_0,hcz34_1,hfz34_0,hfz34_1⟩:=cf2 BK112.out)|((with_reducible refine gate_store (t:=27) (p:=29) rfl ?_);refine store_event (t:=27) (p:=29) (v:=?vo_w35) (w1:=(w32.setCell ⟨gb112,1,none⟩ (.slice Ao33 t115.length co33))) ?hg ?ho ?hn ?hr ?_;(case ho=>rfl);(case hg=>rfl);(case hn=>rfl);(case hr=>first|(go_simp;done)|(go_simp;rfl));intro w35 hw;have n0_:Aside0 (Kd.S k29 29 w35 w.heap.size (fun k_=>some k_≠(.slice Ao22 t106.length co22:Value).ownBlock∧some k_≠(.slice Ao33 t115.length co33:Value).ownBlock∧k_≠gb105∧k_≠gb112) u3 x3_1):=⟨(by rw [hw];exact(by refine zS ?_;exact Kd.S_mono (Kd.S_far (p:=⟨gb112,1,none⟩) (Kd.S_mono HO_3.out (fun k_ hk=>(⟨hk,hk.2.2.1⟩:_∧k_≠gb112))) (fun _ hk=>hk.2) (.slice Ao33 t115.length co33)) (fun _ hk=>⟨hk.1.1,⟨hk.1.2.2.2,⟨hk.1.2.1,hk.1.2.2.1⟩⟩⟩)))⟩;have n1_:Aside0 (Kd.R k78 78 w35 w.heap.size (fun _=>True) (.slice Ao22 t106.length co22) t113):=⟨(by rw [hw];exact(by refine zR ?_;exact Kd.R_mono (Kd.R_far (p:=⟨gb112,1,none⟩) (Kd.R_types HO108.out BK112.out (by decide)) (fun _ hk=>hk.2) (.slice Ao33 t115.length co33)) (fun _ hk=>trivial)))⟩;have n2_:Aside0 (Kd.R k93 93 w35 w.heap.size (fun _=>True) (.slice Ao33 t115.length co33) t115):=⟨(by rw [hw];exact(by refine zR ?_;exact Kd.R_mono (Kd.R_far (p:=⟨gb112,1,none⟩) (Kd.R_types HO117.out BK112.out (by decide)) (fun _ hk=>hk.2) (.slice Ao33 t115.length co33)) (fun _ hk=>trivial)))⟩;have n3_:Aside0 (w35.heap[gb105]? = some (.cells #[.slice A104_0 ((rd_T29 l0 x9_1).f0).length c104_0,.slice A104_1 ((rd_T29 l0 x9_1).f1).length c104_1] 29 (0,0))):=⟨(by rw [hw];exact(by refine zl ?_;refine blk_far ?_ NB105_112.out _;refine zl ?_;exact BK105.out))⟩;have n4_:Aside0 (w35.heap[gb112]? = some (.cells #[.slice Ao22 t106.length co22,.slice Ao33 t115.length co33] 29 (0,0))):=⟨(by rw [hw];exact(by refine zl ?_;refine blk_put (cs:=#[.slice Ao22 t106.length co22,.slice Ao21 t109.length co21]) ?_ 1 _ rfl;refine zl ?_;exact BK112.out))⟩;have n5_:Aside0 (Below w.heap.size w w35):=⟨(by rw [hw];exact(zb))⟩;clear hw;clear HO_3;clear HO108;clear HO117;clear BK105;clear BK112;clear HB;have HO_3:=n0_;have HO108:=n1_;have HO117:=n2_;have BK105:=n3_;have BK112:=n4_;have HB:=n5_;clear n0_ n1_ n2_ n3_ n4_ n5_;obtain⟨hcz36_0,hcz36_1,hfz36_0,hfz36_1⟩:=cf2 BK112.out)|((with_reducible refine gate_builtin (b:=.append) (xs:=#[.tmp 30,.tmp 32]) rfl ?_);at_builtin;refine Kd.S_append k29 (w0:=w) w.heap.size rfl (.tmp 30) (.tmp 32) 45 29 (.agg #[(.slice none 0 0),(.slice none 0 0)]) 48 rfl Tryz.underlying45 info29 rfl (by decide) (by omega) u3 x3_1 (⟨t113,t115⟩:S29) [.slice Ao22 t106.length co22,.slice Ao33 t115.length co33] (fun k_=>k_≠gb105∧k_≠gb112) (fun k_=>some k_=(.slice Ao22 t106.length co22:Value).ownBlock∨some k_=(.slice Ao33 t115.length co33:Value).ownBlock) rfl rfl ?aP (fun k_ hk_=>hk_.elim (fun h_=>((Kd.R_mono (ok':=fun k_=>((fun k_=>k_≠gb105∧k_≠gb112)) k_∧some k_≠(u3:Value).ownBlock) (Kd.R_types (Kd.R_types (Kd.R_apart' (HO108.out) (Kd.S_typed HO_3.out) (by decide)) BK105.out (by decide)) BK112.out (by decide)) (fun k_ hk=>⟨⟨hk.1.2,hk.2⟩,hk.1.1.2⟩))).1 k_ h_.symm) (fun h_=>((Kd.R_mono (ok':=fun k_=>((fun k_=>k_≠gb105∧k_≠gb112)) k_∧some k_≠(u3:Value).ownBlock) (Kd.R_types (Kd.R_types (Kd.R_apart' (HO117.out) (Kd.S_typed HO_3.out) (by decide)) BK105.out (by decide)) BK112.out (by decide)) (fun k_ hk=>⟨⟨hk.1.2,hk.2⟩,hk.1.1.2⟩))).1 k_ h_.symm)) ?aF ?aO ?aB ?aS ?aL ?_;(case aP=>exact k29_mkM _ _ _ (⟨t113,t115⟩:S29) (Kd.R_mono (Kd.R_tight rfl (Kd.R_mono (ok':=fun k_=>((fun k_=>k_≠gb105∧k_≠gb112)) k_∧some k_≠(u3:Value).ownBlock) (Kd.R_types (Kd.R_types (Kd.R_apart' (HO108.out) (Kd.S_typed HO_3.out) (by decide)) BK105.out (by decide)) BK112.out (by decide)) (fun k_ hk=>⟨⟨hk.1.2,hk.2⟩,hk.1.1.2⟩))) (fun _ h_=>Or.inl h_)) (Kd.R_mono (Kd.R_tight rfl (Kd.R_mono (ok':=fun k_=>((fun k_=>k_≠gb105∧k_≠gb112)) k_∧some k_≠(u3:Value).ownBlock) (Kd.R_types (Kd.R_types (Kd.R_apart' (HO117.out) (Kd.S_typed HO_3.out) (by decide)) BK105.out (by decide)) BK112.out (by decide)) (fun k_ hk=>⟨⟨hk.1.2,hk.2⟩,hk.1.1.2⟩))) (fun _ h_=>Or.inr (h_))));(case aB=>exact (zb));(case aF=>exact (fun k_ hk=>⟨Kd.freshB (g:=gb105) (o:=.cells #[.slice A104_0 ((rd_T29 l0 x9_1).f0).length c104_0,.slice A104_1 ((rd_T29 l0 x9_1).f1).length c104_1] 29 (0,0)) (zl BK105.out) k_ hk,Kd.freshB (g:=gb112) (o:=.cells #[.slice Ao22 t106.length co22,.slice Ao33 t115.length co33] 29 (0,0)) (zl BK112.out) k_ hk⟩));(case aO=>exact (by refine zS ?_;exact Kd.S_mono HO_3.out (fun k_ hk=>⟨⟨hk.2.2.1,hk.2.2.2⟩,fun e_=>e_.elim (fun h_=>hk.1 h_) (fun h_=>hk.2.1 h_)⟩)));(case aS=>exact (below_size (zb)));(case aL=>have:=LMc10.out;omega);intro v119 w37 ho hb hg hat;rw [← Ny118.out] at ho;replace BK105:=am (blk_grown (g:=gb105) (o:=.cells #[.slice A104_0 ((rd_T29 l0 x9_1).f0).length c104_0,.slice A104_1 ((rd_T29 l0 x9_1).f1).length c104_1] 29 (0,0)) (zl BK105.out) hg (Kd.S_away HO_3.out (fun _ hk=>hk.2.2.1)));replace BK112:=am (blk_grown (g:=gb112) (o:=.cells #[.slice Ao22 t106.length co22,.slice Ao33 t115.length co33] 29 (0,0)) (zl BK112.out) hg (Kd.S_away HO_3.out (fun _ hk=>hk.2.2.2)));replace HB:=am (hb);have HO120:=am (ho);clear HO_3 HO108 HO117;clear ho hb hg hat))
       go_roundg k1
       case measure=>have:=HK1.out;omega
       case rel=>exact ⟨(y118),(wrap64 (x9_1+1)),(ze),H',⟨by have:=HK1.out;omega⟩,⟨by refine zS ?_;exact Kd.S_mono HO120.out (fun _ hk=>trivial)⟩,⟨zb⟩⟩
      rw [if_neg c10] at H;exact absurd H (by simp)
     rw [if_neg c4] at H;exact absurd H (by simp)
    rw [if_neg c3] at H;exact absurd H (by simp)
   rw [if_neg c2] at H;have c2b0:=Qc c2;clear c2;replace H:=Qe H;obtain⟨_,A380,H⟩:=H;have A38:=am A380;clear A380;replace H:=Qe H;obtain⟨t101,A390,H⟩:=H;have A39:=am A390;clear A390;obtain rfl:=Qd H;obtain⟨Ao40,co40,eo40⟩:=Kd.S_slice HO_3.out;subst eo40;have hle:x3_1.length≤3∧compactL eqSe (sortL cmpSe x3_1)=t101:=by
    have h:=A39.out;unfold slices_CompactFunc_sentries_1.f at h
    split at h
    ·
     rename_i hl
     exact⟨hl,Qd h⟩
    cases h
   obtain⟨hle,rfl⟩:=hle;have hle2:(sortL cmpSe x3_1).length=x3_1.length:=(sortL_perm _).length_eq;have HL:=am hle;have HL2:=am hle2;clear hle hle2 A38 A39;go_wp2_with (first|((with_reducible refine gc_ 179 ?_);refine goesL_ (some 36) rfl rfl Tryz.func179 (by kernel_rfl) rfl #[.slice Ao40 x3_1.length co40,(.func (.func 32) #[] #[])] rfl (by (try simp only [List.map_toArray,List.map_cons,List.map_nil]);first|done|rfl) ?_;refine(sortSe_calls (zS HO_3.out) (by have:=HL.out;omega)).mono ?_;rintro e w41 ⟨rfl,hS,hgr⟩;refine⟨_,rfl,?_⟩;have n1_:=am (pw_below_grown (zb) _ (below_size (zb)) hgr (Kd.S_base hS));clear HO_3 HB;have HO_3:=am hS;have HB:=n1_;clear n1_ hS hgr)|((with_reducible refine gc_ 180 ?_);refine goesL_ (some 38) rfl rfl Tryz.func180 (by kernel_rfl) rfl #[.slice Ao40 x3_1.length co40,(.func (.func 181) #[] #[])] rfl (by (try simp only [List.map_toArray,List.map_cons,List.map_nil]);first|done|rfl) ?_;refine(compactSe_calls (zS HO_3.out) (by rw [HL2.out];exact HL.out)).mono ?_;rintro e w42 ⟨v102,rfl,hS,hgr,hob⟩;refine⟨_,rfl,?_⟩;have n1_:=am (pw_below_grown (zb) _ (below_size (zb)) hgr (fun k hk=>Kd.S_base hS k (hob.trans hk)));clear HO_3 HB;have HO103:=am hS;have HB:=n1_;clear n1_ hS hgr hob))
   go_ret;exact⟨_,rfl,zS HO103.out,zb⟩
theorem norm_sentriesN.calls(k:Nat)(A0:Option Addr)(c0:Nat)(l0:List (S29))(r:List (S29))(w:World)(hr0:Kd.C k29 w A0 l0.length l0)(hc0:l0.length≤c0)(h:norm_sentries.f k l0=some r) :
  Calls Tryz.prog 126 #[.slice A0 l0.length c0] w fun e w' => ∃ v0_:Value,e = .returned (v0_)∧Kd.N k29 29 w' w.heap.size (fun k_=>w.heap.size≤k_) v0_ r∧Below w.heap.size w w':=
 (norm_sentries.calls k A0 c0 l0 r w hr0 hc0 h).mono fun _ _ ⟨v,e,h,hb⟩=>⟨v,e,Kd.S_N (Kd.S_mono (Kd.S_bound h) (fun _ hk=>hk.2.1)),hb⟩
end Go.Proofs.YtpbembafpnknhaaGreat.Pr
namespace Go.Proofs.YtpbembafpnknhaaGreat.Pr
open Go.RowKit Sn Go.Proofs.YtpbembafpnknhaaGreatW.PrintWords Go.Proofs.YtpbembafpnknhaaGreatW.PrintLast Go.Proofs.YtpbembafpnknhaaGreatW.PrintMore
open Go.Sort (SWO grow PermIn SortedIn)
theorem under_cmp{W:World}{gb c1:Nat}{A1:Option Addr}{xs:List S47}(k1:W.cell? ⟨gb,1,none⟩=some (.slice A1 xs.length c1))(hC:Kd.C k47 W A1 xs.length xs)(a b:Int)(ha0:0≤a)(ha1:a<xs.length)(hb0:0≤b)(hb1:b<xs.length) :
    Calls Tryz.prog 129 #[.int .i64 a,.int .i64 b,.pointer (some ⟨gb,0,none⟩)] W fun e w'=>e = .returned (.int .i64 (cmpS (rd_T47 xs a).f0 (rd_T47 xs b).f0))∧Drawn0 W w':=by
  have hu25:=Tryz.underlying25;have hu47:=Tryz.underlying47;obtain⟨ad,A5,c5,A6,c6,e,x0,_⟩:=at_T47 hC a ha0 ha1;cases e;obtain⟨ad',_,_,_,_,e,y0,_⟩:=at_T47 hC b hb0 hb1;cases e;replace ha0:=eq_true ha0;replace ha1:=eq_true ha1;replace hb0:=eq_true hb0;replace hb1:=eq_true hb1;have hcc:∀ W0:World,Calls Tryz.prog 116 #[.string (rd_T47 xs a).f0,.string (rd_T47 xs b).f0] W0 fun e w'=>e = .returned (.int .i64 (cmpS (rd_T47 xs a).f0 (rd_T47 xs b).f0))∧∃ m,w'=W0.drewN m:=fun W0=>(cmp_Compare_string.calls _ _ _ W0 (compare_s _ _)).mono (fun _ _ h=>⟨h.1,h.2.out⟩)
  go_enter Tryz.func129,Tryz.ntmps129;go_wp2;go_quiet ((go_at_call 116;exact Calls.quiet_of (hcc _)))
  go_wp2;go_ret;exact⟨rfl,_,rfl⟩
section
variable{α β : Type}{c : β → β → Int}{key : α → β}
theorem ins_map(x:α):∀ l:List α,(ins (fun a b=>c (key a) (key b)) x l).map key=ins c (key x) (l.map key)
  | [] => rfl
  | y :: r => by
    unfold ins;rw [List.map_cons];by_cases h:c (key y) (key x)<0
    · simp only [h,if_true,List.map_cons,ins_map x r]
    simp only [h,if_false,List.map_cons]
theorem sortL_map(l:List α):(sortL (fun a b=>c (key a) (key b)) l).map key=sortL c (l.map key):=by
  unfold sortL;have:∀ acc:List α,(l.foldl (fun acc x=>ins (fun a b=>c (key a) (key b)) x acc) acc).map key=(l.map key).foldl (fun acc x=>ins c x acc) (acc.map key):=by
    induction l with
    | nil => exact fun _ => rfl
    | cons x r ih=>intro acc;rw [List.foldl_cons,List.map_cons,List.foldl_cons,ih,ins_map]
  exact this []
theorem rises_key(h:IsCmp c)(l:List α):Rises (fun a b=>c (key a) (key b)) (sortL (fun a b=>c (key a) (key b)) l):=by
  have h2:=sortL_rises h (l.map key);rw [← sortL_map] at h2;unfold Rises at h2 ⊢
  rwa [List.pairwise_map] at h2
theorem key_inj{l:List α}(hn:(l.map key).Nodup){a b:α}(ha:a ∈ l)(hb:b ∈ l)(e:key a=key b):a=b:=by
  induction l with
  | nil => cases ha
  | cons x r ih =>
    rw [List.map_cons,List.nodup_cons] at hn;rcases List.mem_cons.1 ha with h1|h1 <;> rcases List.mem_cons.1 hb with h2|h2
    · rw [h1,h2]
    · exact absurd (List.mem_map.2 ⟨b,h2,by rw [← e,h1]⟩) hn.1
    · exact absurd (List.mem_map.2 ⟨a,h1,by rw [e,h2]⟩) hn.1
    exact ih hn.2 h1 h2
theorem rises_key_eq(h:IsCmp c){l1 l2:List α}(hn:(l2.map key).Nodup)(h1:Rises (fun a b=>c (key a) (key b)) l1)(h2:Rises (fun a b=>c (key a) (key b)) l2)(hp:l1.Perm l2):l1=l2:=
  hp.eq_of_pairwise (fun a b ha hb hab hba=>by
    refine key_inj hn (hp.mem_iff.1 ha) hb ?_;rcases h.trichotomy (key a) (key b) with h3|h3|h3
    · exact absurd (h.gt.2 h3) hba
    · exact h3
    exact absurd (h.gt.2 h3) hab) h1 h2
end
def cmpAt(xs:List S47)(a b:Int):Int:=cmpS (rd_T47 xs a).f0 (rd_T47 xs b).f0
def slices_SortFunc_int_int.f(l:List Int)(_files:List ByteArray)(xs:List S47):Option (List Int):=
  if (∀ a ∈ l,0≤a∧a<(xs.length:Int))∧(l.map fun a=>(rd_T47 xs a).f0).Nodup∧l.length<4611686018427387904 then some (sortL (cmpAt xs) l) else none
theorem sortAt_len{l r:List Int}{files:List ByteArray}{xs:List S47}(h:slices_SortFunc_int_int.f l files xs=some r):l.length=r.length:=by
  unfold slices_SortFunc_int_int.f at h
  split at h
  · obtain rfl := Qd h
    exact(sortL_perm l).length_eq.symm
  cases h
theorem sortAt_calls(P0_ : Nat → Prop)(u9000_ : Value)(l : List Int)(files : List ByteArray)(xs : List S47)(r : List Int)(w0 w : World){gb n0 c0 c1 : Nat}{A0 A1 : Option Addr}(hB : Below w0.heap.size w0 w)(ho0 : Kd.R (Kd.int .i64) 3 w w0.heap.size P0_ u9000_ l)(hbk:w.heap[gb]? = some (.cells #[.slice A0 n0 c0,.slice A1 xs.length c1] 25 (0,0)))(hC:Kd.C k47 w0 A1 xs.length xs)(h:slices_SortFunc_int_int.f l files xs=some r) :
    Calls Tryz.prog 128 #[u9000_,.func (.func 129) #[] #[.pointer (some ⟨gb,0,none⟩)]] w fun e w'=>e = .returned (.tuple #[])∧Kd.R (Kd.int .i64) 3 w' w0.heap.size P0_ u9000_ r∧Below w0.heap.size w0 w'∧Kept w w' (fun k_=>P0_ k_):=by
  unfold slices_SortFunc_int_int.f at h
  split at h
  · rename_i hh
    obtain⟨hall,hnd,hsz⟩:=hh;obtain rfl:=Qd h;obtain⟨hP,inner,hown,hrep⟩:=ho0;have e1:inner=l.map (Value.int .i64):=by
      have:=flat_inner (enc:=fun x:Int=>[Value.int .i64 x]) (k:=1) (fun _=>rfl) hrep (fun x cs h=>h);rw [this];exact flatMap_singles (fun _ _=>rfl)
    subst e1;by_cases h0:l=[]
    · subst h0
      obtain⟨A,c,rfl⟩:=own_slice hown;refine(AnyF.slices_SortFunc_none (P:=Tryz.prog) (ρ:=Tryz.sortInt_ren) { Tryz.sortInt with } A c _ w).mono ?_;rintro e' w' ⟨rfl,rfl⟩;refine⟨rfl,⟨hP,_,hown,?_⟩,hB,Kept.refl _ _⟩;exact⟨by simp [sortL],fun j p hj=>by simp [sortL] at hj⟩
    have hpos:0<l.length:=List.length_pos_iff.2 h0;obtain⟨g,cap,rfl,hb,hlt⟩:=hown.form hpos;obtain⟨α,hα,pl,hpl,ho2⟩:∃ (α:Type) (_:Inhabited α) (pl:α→Int),(∀ x:α,0≤pl x∧pl x<(xs.length:Int))∧∃ ps:List α,ps.map pl=l:=by
      refine⟨{ i:Int // 0≤i∧i<(xs.length:Int) },⟨⟨l.head h0,hall _ (List.head_mem h0)⟩⟩,Subtype.val,fun x=>x.2,l.pmap (fun i h=>⟨i,h⟩) hall,?_⟩;rw [List.map_pmap];simp
    obtain⟨ps,hps⟩:=ho2;have hpsl:ps.length=l.length:=by rw [← hps,List.length_map]
    have hown2:w.ownsRow w0.heap.size 3 1 (.slice (some ⟨g,0,none⟩) l.length cap) l.length (ps.map fun x=>Value.int .i64 (pl x)):=by
      have:(ps.map fun x=>Value.int .i64 (pl x))=l.map (Value.int .i64):=by rw [← hps,List.map_map];rfl
      rw [this];exact hown
    have hgg:gb≠g:=by
      rintro rfl;obtain⟨cells,hcb⟩:=own_typed hown gb (by simp [Value.ownBlock]);rw [hbk] at hcb;injection hcb with hcb;injection hcb with _ hcb;cases hcb
    have hH:=holds_of_own1 (enc:=fun x:α=>Value.int .i64 (pl x)) (xs:=ps) hpsl hown2;have hlays:CmpLays1 Tryz.prog 129 #[.pointer (some ⟨gb,0,none⟩)] (fun x:α=>Value.int .i64 (pl x)) (fun p q=>cmpAt xs (pl p) (pl q)) g 0 ps.toArray.size w:=by
      intro m os dk hdk p q;have hdk':dk.size=l.length:=by rw [hdk];simpa using hpsl
      have hgr:=(own_sorted1 (m:=m) (os:=os) (d':=dk) hdk' hown2).2;have hW:Below w0.heap.size w0 (sortWorld (fun x:α=>Value.int .i64 (pl x)) w g 0 m dk os):=pw_below_grown hB (some g) hB.size hgr (fun k hk=>by injection hk with hk;rw [← hk];exact hb);have hbk2:(sortWorld (fun x:α=>Value.int .i64 (pl x)) w g 0 m dk os).heap[gb]? = _:=(hgr.block gb (Array.getElem?_eq_some_iff.1 hbk).1 (fun e=>hgg (Qd e))).trans hbk;generalize sortWorld (fun x:α=>Value.int .i64 (pl x)) w g 0 m dk os=W at hW hbk2;have hk1:W.cell? ⟨gb,1,none⟩=some (.slice A1 xs.length c1):=(blk_cell hbk2 1).trans rfl;refine(under_cmp hk1 (Kd.C_below hC hW) (pl p) (pl q) (hpl p).1 (hpl p).2 (hpl q).1 (hpl q).2).mono ?_;rintro e' w' ⟨rfl,hd⟩;obtain⟨nq,rfl⟩:=hd.out;exact⟨rfl,nq,#[],by rw [Go.Sort.grow_empty]⟩
    have hswo:SWO (ltOf fun p q:α=>cmpAt xs (pl p) (pl q)):=by
      have h:=swo_of isCmp_s;exact⟨fun x=>h.irrefl _,fun x y z=>h.trans _ _ _,fun x y z=>h.ntrans _ _ _⟩
    have hcon:=Any.slices_SortFunc Tryz.sortInt (fun x:α=>Value.int .i64 (pl x)) (fun _=>rfl) (fun p q=>cmpAt xs (pl p) (pl q)) hswo 129 #[.pointer (some ⟨gb,0,none⟩)] g 0 cap ps.toArray w (enters_of Tryz.func129 (by kernel_rfl) rfl) hlays hH hlt (by simpa [hpsl] using hsz);have hsz':ps.toArray.size=l.length:=by simpa using hpsl
    rw [hsz'] at hcon;refine hcon.mono ?_;rintro e' w' ⟨rfl,d',n,os,hperm,hsorted,rfl⟩;have hds:d'.size=l.length:=by rw [hperm.1];exact hsz'
    have hpl':d'.toList.Perm ps:=by
      have h3:=hperm.2.2;have e1:d'.extract 0 l.length=d':=by rw [← hds];exact Array.extract_size
      have e2:ps.toArray.extract 0 l.length=ps.toArray:=by rw [← hsz'];exact Array.extract_size
      rw [e1,e2] at h3;exact h3
    obtain⟨hown',hgr⟩:=own_sorted1 (m:=n) (os:=os) (enc:=fun x:α=>Value.int .i64 (pl x)) (d':=d') hds hown2;have hsort:d'.toList.map pl=sortL (cmpAt xs) l:=by
      refine rises_key_eq (c:=cmpS) (key:=fun a=>(rd_T47 xs a).f0) isCmp_s ?_ ?_ (rises_key isCmp_s l) ?_
      · rw [((sortL_perm l).map _).nodup_iff];exact hnd
      · unfold Rises
        rw [List.pairwise_map,List.pairwise_iff_getElem];intro i j hi hj hij;have hi':i<d'.size:=by simpa using hi
        have hj':j<d'.size:=by simpa using hj
        have h3:=hsorted i j (Nat.zero_le _) hij (by rw [← hds];exact hj');rw [getElem!_pos d' i hi',getElem!_pos d' j hj'] at h3;unfold ltOf at h3;rw [decide_eq_false_iff_not] at h3;simp only [Array.getElem_toList];have h3:¬ cmpS (rd_T47 xs (pl d'[j])).f0 (rd_T47 xs (pl d'[i])).f0<0:=h3;intro h4;have:=isCmp_s.gt.1 h4;omega
      have h3:=hpl'.map pl;rw [hps] at h3;exact h3.trans (sortL_perm l).symm
    have hll:(sortL (cmpAt xs) l).length=l.length:=(sortL_perm l).length_eq;have hmap':(d'.toList.map fun x=>Value.int .i64 (pl x))=(sortL (cmpAt xs) l).flatMap fun x=>[Value.int .i64 x]:=by
      rw [flatMap_singles (f:=Value.int .i64) (fun _ _=>rfl),← hsort,List.map_map];rfl
    rw [hmap'] at hown';refine⟨rfl,⟨hP,_,by rw [hll];exact hown',reps_flat (enc:=fun x:Int=>[Value.int .i64 x]) (k:=1) (fun _=>rfl) _ (fun x=>rfl)⟩,?_,?_⟩
    · exact pw_below_grown hB (some g) (Nat.le_trans hB.size (Nat.le_refl _)) hgr (fun k_ hk_=>by injection hk_ with hk_;rw [← hk_];exact hb)
    exact Kept.of_grown hgr (Kept.refl _ _) (fun k_ hk_=>.inl (hP k_ (by simpa [Value.ownBlock] using hk_)))
  cases h
end Go.Proofs.YtpbembafpnknhaaGreat.Pr
namespace Go.Proofs.YtpbembafpnknhaaGreat.Pr
open Go.RowKit Go.Proofs.YtpbembafpnknhaaGreatW.PrintWords Go.Proofs.YtpbembafpnknhaaGreatW.PrintLast Go.Proofs.YtpbembafpnknhaaGreatW.PrintMore
attribute [local go_sem] max2_int min2_int max_two min_two max_three min_three max_four min_four
def name_isLetter.f(a0:Int):Option (Bool):=if a0≥97 then (if a0≤122 then (some true) else (if a0≥65 then (if a0≤90 then (some true) else (some (a0 == 95))) else (some (a0 == 95)))) else (if a0≥65 then (if a0≤90 then (some true) else (some (a0 == 95))) else (some (a0 == 95)))
theorem name_isLetter.calls(a0:Int)(r:Bool)(w:World)(h:name_isLetter.f a0=some r) :
  Calls Tryz.prog 208 #[.int .u8 a0] w fun e w'=>e = .returned (.bool r)∧Drawn0 w w':=by
 have H:(if a0≥97 then (if a0≤122 then (some true) else (if a0≥65 then (if a0≤90 then (some true) else (some (a0 == 95))) else (some (a0 == 95)))) else (if a0≥65 then (if a0≤90 then (some true) else (some (a0 == 95))) else (some (a0 == 95))))=some r:=h;clear h;by_cases c2:a0≥97
 ·
  rw [if_pos c2] at H;have c2b0:decide (97≤a0)=true:=Qb c2;clear c2;by_cases c3:a0≤122
  ·
   rw [if_pos c3] at H;have c3b0:decide (a0≤122)=true:=Qb c3;clear c3;obtain rfl:=Qd H;go_enter Tryz.func208,Tryz.ntmps208;go_wp2;go_ret;exact⟨ze,zd⟩
  rw [if_neg c3] at H;have c3b0:decide (a0≤122)=false:=Qc c3;clear c3;by_cases c4:a0≥65
  ·
   rw [if_pos c4] at H;have c4b0:decide (65≤a0)=true:=Qb c4;clear c4;by_cases c5:a0≤90
   ·
    rw [if_pos c5] at H;have c5b0:decide (a0≤90)=true:=Qb c5;clear c5;obtain rfl:=Qd H;go_enter Tryz.func208,Tryz.ntmps208;go_wp2;go_ret;exact⟨ze,zd⟩
   rw [if_neg c5] at H;have c5b0:decide (a0≤90)=false:=Qc c5;clear c5;obtain rfl:=Qd H;go_enter Tryz.func208,Tryz.ntmps208;go_wp2;go_ret;exact⟨ze,zd⟩
  rw [if_neg c4] at H;have c4b0:decide (65≤a0)=false:=Qc c4;clear c4;obtain rfl:=Qd H;go_enter Tryz.func208,Tryz.ntmps208;go_wp2;go_ret;exact⟨ze,zd⟩
 rw [if_neg c2] at H;have c2b0:decide (97≤a0)=false:=Qc c2;clear c2;by_cases c6:a0≥65
 ·
  rw [if_pos c6] at H;have c6b0:decide (65≤a0)=true:=Qb c6;clear c6;by_cases c7:a0≤90
  ·
   rw [if_pos c7] at H;have c7b0:decide (a0≤90)=true:=Qb c7;clear c7;obtain rfl:=Qd H;go_enter Tryz.func208,Tryz.ntmps208;go_wp2;go_ret;exact⟨ze,zd⟩
  rw [if_neg c7] at H;have c7b0:decide (a0≤90)=false:=Qc c7;clear c7;obtain rfl:=Qd H;go_enter Tryz.func208,Tryz.ntmps208;go_wp2;go_ret;exact⟨ze,zd⟩
 rw [if_neg c6] at H;have c6b0:decide (65≤a0)=false:=Qc c6;clear c6;obtain rfl:=Qd H;go_enter Tryz.func208,Tryz.ntmps208;go_wp2;go_ret;exact⟨ze,zd⟩
def name_isMore.f(a0:Int):Option (Bool):=(name_isLetter.f a0).bind fun t101=>(if t101=true then (some true) else (if a0≥48 then (if a0≤57 then (some true) else (if a0=45 then (some true) else (some (a0 == 46)))) else (if a0=45 then (some true) else (some (a0 == 46)))))
theorem name_isMore.calls(a0:Int)(r:Bool)(w:World)(h:name_isMore.f a0=some r) :
  Calls Tryz.prog 209 #[.int .u8 a0] w fun e w'=>e = .returned (.bool r)∧Drawn0 w w':=by
 have H:((name_isLetter.f a0).bind fun t101=>(if t101=true then (some true) else (if a0≥48 then (if a0≤57 then (some true) else (if a0=45 then (some true) else (some (a0 == 46)))) else (if a0=45 then (some true) else (some (a0 == 46))))))=some r:=h;clear h;replace H:=Qe H;obtain⟨t101,A20,H⟩:=H;replace H:(if t101=true then (some true) else (if a0≥48 then (if a0≤57 then (some true) else (if a0=45 then (some true) else (some (a0 == 46)))) else (if a0=45 then (some true) else (some (a0 == 46)))))=some r:=H;have A2:=am A20;clear A20;by_cases c3:t101=true
 ·
  subst c3;have H1:(some true)=some r:=by rw [if_pos rfl] at H;exact H
  clear H;have H:=H1;clear H1;obtain rfl:=Qd H;go_enter Tryz.func209,Tryz.ntmps209;go_wp2_with (first|((with_reducible refine gc_ 208 ?_);refine goesL_ (some 4) rfl rfl Tryz.func208 (by kernel_rfl) rfl #[.int .u8 a0] rfl (za) ?_;(with_reducible refine (name_isLetter.calls a0 true _ A2.out).mono ?_);rintro e w' ⟨rfl,⟨nd,rfl⟩⟩;refine⟨_,rfl,?_⟩))
  go_ret;exact⟨ze,zd⟩
 replace c3:=Qj c3;subst c3;have H1:(if a0≥48 then (if a0≤57 then (some true) else (if a0=45 then (some true) else (some (a0 == 46)))) else (if a0=45 then (some true) else (some (a0 == 46))))=some r:=by rw [if_neg (show ¬ (false=true) by decide)] at H;exact H
 clear H;have H:=H1;clear H1;by_cases c4:a0≥48
 ·
  rw [if_pos c4] at H;have c4b0:decide (48≤a0)=true:=Qb c4;clear c4;by_cases c5:a0≤57
  ·
   rw [if_pos c5] at H;have c5b0:decide (a0≤57)=true:=Qb c5;clear c5;obtain rfl:=Qd H;go_enter Tryz.func209,Tryz.ntmps209;go_wp2_with (first|((with_reducible refine gc_ 208 ?_);refine goesL_ (some 4) rfl rfl Tryz.func208 (by kernel_rfl) rfl #[.int .u8 a0] rfl (za) ?_;(with_reducible refine (name_isLetter.calls a0 false _ A2.out).mono ?_);rintro e w' ⟨rfl,⟨nd,rfl⟩⟩;refine⟨_,rfl,?_⟩))
   go_ret;exact⟨ze,zd⟩
  rw [if_neg c5] at H;have c5b0:decide (a0≤57)=false:=Qc c5;clear c5;by_cases c6:a0=45
  ·
   rw [if_pos c6] at H;have c6b0:(a0 == 45)=true:=Qh c6;have c6b1:(a0 != 45)=false:=Qf c6;clear c6;obtain rfl:=Qd H;go_enter Tryz.func209,Tryz.ntmps209;go_wp2_with (first|((with_reducible refine gc_ 208 ?_);refine goesL_ (some 4) rfl rfl Tryz.func208 (by kernel_rfl) rfl #[.int .u8 a0] rfl (za) ?_;(with_reducible refine (name_isLetter.calls a0 false _ A2.out).mono ?_);rintro e w' ⟨rfl,⟨nd,rfl⟩⟩;refine⟨_,rfl,?_⟩))
   go_ret;exact⟨ze,zd⟩
  rw [if_neg c6] at H;have c6b0:(a0 == 45)=false:=Qg c6;have c6b1:(a0 != 45)=true:=Qi c6;obtain rfl:=Qd H;go_enter Tryz.func209,Tryz.ntmps209;go_wp2_with (first|((with_reducible refine gc_ 208 ?_);refine goesL_ (some 4) rfl rfl Tryz.func208 (by kernel_rfl) rfl #[.int .u8 a0] rfl (za) ?_;(with_reducible refine (name_isLetter.calls a0 false _ A2.out).mono ?_);rintro e w' ⟨rfl,⟨nd,rfl⟩⟩;refine⟨_,rfl,?_⟩))
  go_ret;exact⟨ze,zd⟩
 rw [if_neg c4] at H;have c4b0:decide (48≤a0)=false:=Qc c4;clear c4;by_cases c7:a0=45
 ·
  rw [if_pos c7] at H;have c7b0:(a0 == 45)=true:=Qh c7;have c7b1:(a0 != 45)=false:=Qf c7;clear c7;obtain rfl:=Qd H;go_enter Tryz.func209,Tryz.ntmps209;go_wp2_with (first|((with_reducible refine gc_ 208 ?_);refine goesL_ (some 4) rfl rfl Tryz.func208 (by kernel_rfl) rfl #[.int .u8 a0] rfl (za) ?_;(with_reducible refine (name_isLetter.calls a0 false _ A2.out).mono ?_);rintro e w' ⟨rfl,⟨nd,rfl⟩⟩;refine⟨_,rfl,?_⟩))
  go_ret;exact⟨ze,zd⟩
 rw [if_neg c7] at H;have c7b0:(a0 == 45)=false:=Qg c7;have c7b1:(a0 != 45)=true:=Qi c7;obtain rfl:=Qd H;go_enter Tryz.func209,Tryz.ntmps209;go_wp2_with (first|((with_reducible refine gc_ 208 ?_);refine goesL_ (some 4) rfl rfl Tryz.func208 (by kernel_rfl) rfl #[.int .u8 a0] rfl (za) ?_;(with_reducible refine (name_isLetter.calls a0 false _ A2.out).mono ?_);rintro e w' ⟨rfl,⟨nd,rfl⟩⟩;refine⟨_,rfl,?_⟩))
 go_ret;exact⟨ze,zd⟩
end Go.Proofs.YtpbembafpnknhaaGreat.Pr
