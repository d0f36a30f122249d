/- Contracts of Go's own library, laid at this program. Conditions: none. -/
import Derived.Ground.Names8Prog
import Derived.Shelf.Spec.SlicesGrow
import Derived.WalkKit
import Derived.Test.YtpabbbmfcgnhdaaGreatRows
import Derived.Test.YtpabbbmfcgnhdaaGreatYv
namespace Go.Proofs
open Go.Shelf
def zcC:Go.Shelf.Ren:=⟨fun|4=>459|n=>n,fun|22=>79|25=>5|3=>3|4=>4|9=>9|20=>20|0=>0|n=>n,fun|n=>n⟩
theorem zga:Go.Proofs.Lays8.n4 Tryz.prog zcC:={
 mixed:=by kernel_rfl
 f4:=⟨Tryz.f459.name,by decide,Tryz.func459.trans<|congrArg some (by kernel_rfl)⟩
 t0:=Tryz.underlying0
 a0:=Tryz.isAgg0
 z0:=Tryz.sizeOf0
 v0:=Tryz.zeroValue0
 t3:=Tryz.underlying3
 a3:=Tryz.isAgg3
 z3:=Tryz.sizeOf3
 v3:=Tryz.zeroValue3
 t4:=Tryz.underlying4
 a4:=Tryz.isAgg4
 z4:=Tryz.sizeOf4
 v4:=Tryz.zeroValue4
 t9:=Tryz.underlying9
 a9:=Tryz.isAgg9
 z9:=Tryz.sizeOf9
 v9:=Tryz.zeroValue9
 t20:=Tryz.underlying20
 a20:=Tryz.isAgg20
 z20:=Tryz.sizeOf20
 v20:=Tryz.zeroValue20
 t22:=Tryz.underlying79
 a22:=Tryz.isAgg79
 z22:=Tryz.sizeOf79
 v22:=Tryz.zeroValue79}
open Go.RowKit Go.Lib Go.AW
set_option maxHeartbeats 1000000 in
theorem zjl(b off:Nat)(z:Int)(W:World):Calls Tryz.prog 372 #[.pointer (some ⟨b,off,none⟩),.int .u8 z] W fun e w'=>e= .returned (.pointer<|some ⟨b,off+zdJ z,none⟩)∧w'=W:=by
 go_enter Tryz.func372,Tryz.ntmps372
 go_wp2
 all_goals
  go_ret
  simp only[beq_iff_eq,beq_eq_false_iff_ne,ne_eq] at *;simp[zdJ, *]
theorem XP(n i j:Nat)(f:Int):VFn Tryz.prog 372 [.one (.ptr<|.nm n i j),.one<|.d<|.int .u8 f] [] (.one<|.ptr<|.nm n i (j+zdJ f)):=by
 refine⟨by kernel_rfl,fun cx m w xs _ ha=> ?_⟩
 match xs,ha with
 |[p,q],⟨⟨_,g,b,hg,hb,hp⟩,hq,_⟩=>
  have hq:=ZB hq;subst hp;subst hq;exact Calls.mono (zjl b (i * g.sz+j) f w) fun e w' ⟨he,hw⟩=>⟨_,he,by subst hw;exact⟨rfl,rfl,rfl,Nat.le_refl _,fun _ _=>rfl⟩,fun _=>⟨rfl,g,b,hg,hb,by rw[Nat.add_assoc]⟩⟩
end Go.Proofs
