/- Contracts of Go's own library, laid at this program. Conditions: none. -/
import Derived.Ground.NamesProg
import Derived.Shelf.Sort.Plain
import Derived.Ground.Names2Prog
import Derived.Shelf.Slices.CompactI
import Derived.Ground.Names8Prog
import Derived.Shelf.Spec.SlicesGrow
import Derived.Test.YtpabbbmfcgnhdaaGreatRows
namespace Go.Proofs
open Go.Shelf
def zfC:Go.Shelf.Ren:=⟨fun|4=>304|n=>n,fun|22=>54|25=>3|3=>3|4=>4|9=>9|20=>20|0=>0|n=>n,fun|n=>n⟩
theorem zjn:Go.Proofs.Lays8.n4 Tryz.prog zfC:={
 mixed:=by kernel_rfl
 f4:=⟨Tryz.f304.name,by decide,Tryz.func304.trans<|congrArg some (by kernel_rfl)⟩
 t0:=Tryz.underlying0
 a0:=Tryz.isAgg0
 z0:=Tryz.sizeOf0
 v0:=Tryz.zeroValue0
 t3:=Tryz.underlying3
 a3:=Tryz.isAgg3
 z3:=Tryz.sizeOf3
 v3:=Tryz.zeroValue3
 t4:=Tryz.underlying4
 a4:=Tryz.isAgg4
 z4:=Tryz.sizeOf4
 v4:=Tryz.zeroValue4
 t9:=Tryz.underlying9
 a9:=Tryz.isAgg9
 z9:=Tryz.sizeOf9
 v9:=Tryz.zeroValue9
 t20:=Tryz.underlying20
 a20:=Tryz.isAgg20
 z20:=Tryz.sizeOf20
 v20:=Tryz.zeroValue20
 t22:=Tryz.underlying54
 a22:=Tryz.isAgg54
 z22:=Tryz.sizeOf54
 v22:=Tryz.zeroValue54}
def zfB:Go.Shelf.Ren:=⟨fun|189=>237|125=>306|257=>305|128=>357|129=>358|294=>349|295=>350|296=>351|297=>352|298=>353|299=>354|216=>309|300=>355|301=>356|328=>384|329=>385|330=>386|331=>387|332=>388|215=>363|343=>424|n=>n,fun|28=>54|3=>3|46=>315|0=>0|51=>359|53=>361|4=>4|183=>353|182=>352|131=>269|5=>5|9=>9|218=>387|222=>375|228=>414|229=>415|n=>n,fun|n=>n⟩
theorem zjl:Go.Proofs.Lays.n189 Tryz.prog zfB:={
 mixed:=by kernel_rfl
 f125:=Tryz.func306.trans (congrArg some (by kernel_rfl))
 f128:=Tryz.func357.trans (congrArg some (by kernel_rfl))
 f129:=Tryz.func358.trans (congrArg some (by kernel_rfl))
 f189:=Tryz.func237.trans (congrArg some (by kernel_rfl))
 f215:=Tryz.func363.trans (congrArg some (by kernel_rfl))
 f216:=Tryz.func309.trans (congrArg some (by kernel_rfl))
 f257:=Tryz.func305.trans (congrArg some (by kernel_rfl))
 f294:=Tryz.func349.trans (congrArg some (by kernel_rfl))
 f295:=Tryz.func350.trans (congrArg some (by kernel_rfl))
 f296:=Tryz.func351.trans (congrArg some (by kernel_rfl))
 f297:=Tryz.func352.trans (congrArg some (by kernel_rfl))
 f298:=Tryz.func353.trans (congrArg some (by kernel_rfl))
 f299:=Tryz.func354.trans (congrArg some (by kernel_rfl))
 f300:=Tryz.func355.trans (congrArg some (by kernel_rfl))
 f301:=Tryz.func356.trans (congrArg some (by kernel_rfl))
 f328:=Tryz.func384.trans (congrArg some (by kernel_rfl))
 f329:=Tryz.func385.trans (congrArg some (by kernel_rfl))
 f330:=Tryz.func386.trans (congrArg some (by kernel_rfl))
 f331:=Tryz.func387.trans (congrArg some (by kernel_rfl))
 f332:=Tryz.func388.trans (congrArg some (by kernel_rfl))
 f343:=Tryz.func424.trans (congrArg some (by kernel_rfl))
 t0:=Tryz.underlying0
 a0:=Tryz.isAgg0
 z0:=Tryz.sizeOf0
 v0:=Tryz.zeroValue0
 t3:=Tryz.underlying3
 a3:=Tryz.isAgg3
 z3:=Tryz.sizeOf3
 v3:=Tryz.zeroValue3
 t4:=Tryz.underlying4
 a4:=Tryz.isAgg4
 z4:=Tryz.sizeOf4
 v4:=Tryz.zeroValue4
 t5:=Tryz.underlying5
 a5:=Tryz.isAgg5
 z5:=Tryz.sizeOf5
 v5:=Tryz.zeroValue5
 t9:=Tryz.underlying9
 a9:=Tryz.isAgg9
 z9:=Tryz.sizeOf9
 v9:=Tryz.zeroValue9
 t28:=Tryz.underlying54
 a28:=Tryz.isAgg54
 z28:=Tryz.sizeOf54
 v28:=Tryz.zeroValue54
 t46:=Tryz.underlying315
 a46:=Tryz.isAgg315
 z46:=Tryz.sizeOf315
 v46:=Tryz.zeroValue315
 t51:=Tryz.underlying359
 a51:=Tryz.isAgg359
 z51:=Tryz.sizeOf359
 v51:=Tryz.zeroValue359
 t53:=Tryz.underlying361
 a53:=Tryz.isAgg361
 z53:=Tryz.sizeOf361
 v53:=Tryz.zeroValue361
 t131:=Tryz.underlying269
 a131:=Tryz.isAgg269
 z131:=Tryz.sizeOf269
 v131:=Tryz.zeroValue269
 t182:=Tryz.underlying352
 a182:=Tryz.isAgg352
 z182:=Tryz.sizeOf352
 v182:=Tryz.zeroValue352
 t183:=Tryz.underlying353
 a183:=Tryz.isAgg353
 z183:=Tryz.sizeOf353
 v183:=Tryz.zeroValue353
 t218:=Tryz.underlying387
 a218:=Tryz.isAgg387
 z218:=Tryz.sizeOf387
 v218:=Tryz.zeroValue387
 t222:=Tryz.underlying375
 a222:=Tryz.isAgg375
 z222:=Tryz.sizeOf375
 v222:=Tryz.zeroValue375
 t228:=Tryz.underlying414
 a228:=Tryz.isAgg414
 z228:=Tryz.sizeOf414
 v228:=Tryz.zeroValue414
 t229:=Tryz.underlying415
 a229:=Tryz.isAgg415
 z229:=Tryz.sizeOf415
 v229:=Tryz.zeroValue415}
def zej:Go.Shelf.Ren:=⟨fun|20=>238|n=>n,fun|22=>54|3=>3|4=>4|0=>0|n=>n,fun|n=>n⟩
theorem zhR:Go.Proofs.Lays2.n20 Tryz.prog zej:={
 mixed:=by kernel_rfl
 f20:=Tryz.func238.trans (congrArg some (by kernel_rfl))
 t0:=Tryz.underlying0
 a0:=Tryz.isAgg0
 z0:=Tryz.sizeOf0
 v0:=Tryz.zeroValue0
 t3:=Tryz.underlying3
 a3:=Tryz.isAgg3
 z3:=Tryz.sizeOf3
 v3:=Tryz.zeroValue3
 t4:=Tryz.underlying4
 a4:=Tryz.isAgg4
 z4:=Tryz.sizeOf4
 v4:=Tryz.zeroValue4
 t22:=Tryz.underlying54
 a22:=Tryz.isAgg54
 z22:=Tryz.sizeOf54
 v22:=Tryz.zeroValue54
 i3:=by kernel_rfl}
end Go.Proofs
