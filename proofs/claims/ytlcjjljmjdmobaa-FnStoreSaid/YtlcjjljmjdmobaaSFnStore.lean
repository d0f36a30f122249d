/- Contracts of Go's own library, laid at this program. Conditions: none. -/
import Derived.Ground.Names8Prog
import Derived.Shelf.Spec.SlicesGrow
import Derived.Ground.SlsfProg
import Derived.Shelf.SlSortCmp.NoneTotal
import Derived.WalkKit
import Derived.Test.YtlcjjljmjdmobaaRows
namespace Go.Proofs
open Go.Shelf
def Try.grow106_ren:Go.Shelf.Ren:=⟨fun|4=>106|n=>n,fun|22=>24|25=>74|3=>3|4=>4|9=>9|20=>20|0=>0|2=>3|n=>n,fun|n=>n⟩
theorem Try.grow106:Go.Proofs.Lays8.n4 Try.prog Try.grow106_ren:={
 mixed:=by kernel_rfl
 f4:=⟨Try.f106.name,by decide,Try.func106.trans (congrArg some (by kernel_rfl))⟩
 t0:=Try.underlying0
 a0:=Try.isAgg0
 z0:=Try.sizeOf0
 v0:=Try.zeroValue0
 t3:=Try.underlying3
 a3:=Try.isAgg3
 z3:=Try.sizeOf3
 v3:=Try.zeroValue3
 t4:=Try.underlying4
 a4:=Try.isAgg4
 z4:=Try.sizeOf4
 v4:=Try.zeroValue4
 t9:=Try.underlying9
 a9:=Try.isAgg9
 z9:=Try.sizeOf9
 v9:=Try.zeroValue9
 t20:=Try.underlying20
 a20:=Try.isAgg20
 z20:=Try.sizeOf20
 v20:=Try.zeroValue20
 t22:=Try.underlying24
 a22:=Try.isAgg24
 z22:=Try.sizeOf24
 v22:=Try.zeroValue24}
def Try.sort53_ren:Go.Shelf.Ren:=⟨fun|6=>53|15=>108|14=>107|28=>144|29=>145|20=>136|21=>137|22=>138|23=>139|24=>140|25=>141|26=>142|27=>143|46=>163|47=>164|48=>165|49=>166|50=>167|57=>176|n=>n,fun|22=>24|24=>74|25=>80|3=>3|39=>117|0=>0|53=>149|55=>151|4=>4|46=>143|45=>142|50=>138|5=>5|9=>9|66=>164|70=>168|76=>181|77=>85|n=>n,fun|n=>n⟩
theorem Try.sort53:Go.Proofs.SlLaysF0.n6 Try.prog Try.sort53_ren:={
 mixed:=by kernel_rfl
 f6:=⟨Try.f53.name,by decide,Try.func53.trans (congrArg some (by kernel_rfl))⟩
 f14:=⟨Try.f107.name,by decide,Try.func107.trans (congrArg some (by kernel_rfl))⟩
 f15:=Try.func108.trans (congrArg some (by kernel_rfl))
 f20:=⟨Try.f136.name,by decide,Try.func136.trans (congrArg some (by kernel_rfl))⟩
 f21:=⟨Try.f137.name,by decide,Try.func137.trans (congrArg some (by kernel_rfl))⟩
 f22:=⟨Try.f138.name,by decide,Try.func138.trans (congrArg some (by kernel_rfl))⟩
 f23:=⟨Try.f139.name,by decide,Try.func139.trans (congrArg some (by kernel_rfl))⟩
 f24:=⟨Try.f140.name,by decide,Try.func140.trans (congrArg some (by kernel_rfl))⟩
 f25:=⟨Try.f141.name,by decide,Try.func141.trans (congrArg some (by kernel_rfl))⟩
 f26:=⟨Try.f142.name,by decide,Try.func142.trans (congrArg some (by kernel_rfl))⟩
 f27:=⟨Try.f143.name,by decide,Try.func143.trans (congrArg some (by kernel_rfl))⟩
 f28:=Try.func144.trans (congrArg some (by kernel_rfl))
 f29:=Try.func145.trans (congrArg some (by kernel_rfl))
 f46:=⟨Try.f163.name,by decide,Try.func163.trans (congrArg some (by kernel_rfl))⟩
 f47:=Try.func164.trans (congrArg some (by kernel_rfl))
 f48:=Try.func165.trans (congrArg some (by kernel_rfl))
 f49:=⟨Try.f166.name,by decide,Try.func166.trans (congrArg some (by kernel_rfl))⟩
 f50:=⟨Try.f167.name,by decide,Try.func167.trans (congrArg some (by kernel_rfl))⟩
 f57:=⟨Try.f176.name,by decide,Try.func176.trans (congrArg some (by kernel_rfl))⟩
 t0:=Try.underlying0
 a0:=Try.isAgg0
 z0:=Try.sizeOf0
 v0:=Try.zeroValue0
 t3:=Try.underlying3
 a3:=Try.isAgg3
 z3:=Try.sizeOf3
 v3:=Try.zeroValue3
 t4:=Try.underlying4
 a4:=Try.isAgg4
 z4:=Try.sizeOf4
 v4:=Try.zeroValue4
 t5:=Try.underlying5
 a5:=Try.isAgg5
 z5:=Try.sizeOf5
 v5:=Try.zeroValue5
 t9:=Try.underlying9
 a9:=Try.isAgg9
 z9:=Try.sizeOf9
 v9:=Try.zeroValue9
 t22:=Try.underlying24
 a22:=Try.isAgg24
 z22:=Try.sizeOf24
 v22:=Try.zeroValue24
 t25:=Try.underlying80
 a25:=Try.isAgg80
 z25:=Try.sizeOf80
 v25:=Try.zeroValue80
 t39:=Try.underlying117
 a39:=Try.isAgg117
 z39:=Try.sizeOf117
 v39:=Try.zeroValue117
 t45:=Try.underlying142
 a45:=Try.isAgg142
 z45:=Try.sizeOf142
 v45:=Try.zeroValue142
 t46:=Try.underlying143
 a46:=Try.isAgg143
 z46:=Try.sizeOf143
 v46:=Try.zeroValue143
 t50:=Try.underlying138
 a50:=Try.isAgg138
 z50:=Try.sizeOf138
 v50:=Try.zeroValue138
 t53:=Try.underlying149
 a53:=Try.isAgg149
 z53:=Try.sizeOf149
 v53:=Try.zeroValue149
 t55:=Try.underlying151
 a55:=Try.isAgg151
 z55:=Try.sizeOf151
 v55:=Try.zeroValue151
 t66:=Try.underlying164
 a66:=Try.isAgg164
 z66:=Try.sizeOf164
 v66:=Try.zeroValue164
 t70:=Try.underlying168
 a70:=Try.isAgg168
 z70:=Try.sizeOf168
 v70:=Try.zeroValue168
 t76:=Try.underlying181
 a76:=Try.isAgg181
 z76:=Try.sizeOf181
 v76:=Try.zeroValue181
 t77:=Try.underlying85
 a77:=Try.isAgg85
 z77:=Try.sizeOf85
 v77:=Try.zeroValue85}
open Go.RowKit Go.Lib Go.Sort
set_option maxHeartbeats 1000000 in
theorem Try.less54(x y:Int×Int)(W:World):Calls Try.prog 54 #[.agg #[.int .i64 x.1,.int .i64 x.2],.agg #[.int .i64 y.1,.int .i64 y.2]] W fun e w'=>e= .returned (.int .i64 (IntKind.i64.wrap (x.1 - y.1)))∧∃q os',w'=grow (W.drewN q) os':=by
 go_enter Try.func54,Try.ntmps54
 go_wp2
 go_ret
 have hw:∀n,wrap64 n=IntKind.i64.wrap n:=fun n=>by simp[wrap64,IntKind.wrap,IntKind.bits,IntKind.signed];split<;>omega
 exact⟨congrArg (fun n=>Ending.returned (Value.int .i64 n)) (hw _),0,_,by rw[alloc_eq_grow,alloc_eq_grow,grow_grow];rfl⟩
end Go.Proofs
