/- The given statement: the law returns true for every input, and its arguments read as they did. Conditions: none. -/
import Derived.Test.YtlcjjljmjdmobaaDFnEndsOncea
import Derived.Test.YtlcjjljmjdmobaaDFnEndsOnceb
import Derived.Test.YtlcjjljmjdmobaaDFnEndsOncec
import Derived.Test.YtlcjjljmjdmobaaDFnEndsOnced
import Derived.Test.YtlcjjljmjdmobaaDFnEndsOncee
import Derived.Test.YtlcjjljmjdmobaaPFnEndsOnce
import Derived.Test.YtlcjjljmjdmobaaBr
import Derived.Test.YtlcjjljmjdmobaaRows
import Derived.ProofKit
import Derived.KernelRfl
set_option linter.unusedVariables false
set_option maxRecDepth 100000
namespace Go.Proofs.Ytlcjjljmjdmobaa
open Go.AW Go.ChangeShapes Go.WideShapes Go.ChangeAt Go.RowKit
theorem zgA:ownKnob Try.prog.godebug=none:=by kernel_rfl
theorem zeH:laidOutB Try.prog=true:=by kernel_rfl
theorem zqP:Rds Try.prog 5 (fun ds=>∃x:Int,(inK .u8) x∧ds=zN x):=Rds.int (by kernel_rfl)
theorem zpI:Rds Try.prog 31 (fun ds=>∃x:(List Int),(okS (inK .u8)) x∧ds=zmI x):=Rds.slice (f:=zN) (ok:=(inK .u8)) (sz:=1) (by kernel_rfl) (by kernel_rfl) (by decide) (fun _=>rfl) zqP
theorem Xt(os:Os)(started:os.Started)(H:Type)(enc:TypeId×Value→H):
  ReturnsInHanded {} Try.checked os 5 .any (Rows.fnEndsOnceSpec.pre6 enc Try.prog Try.f5 Rows.fnEndsOnceRow.domain false) (Rows.fnEndsOnceSpec.post enc Try.prog Try.f5 false true false false):=by
 refine returnsInHanded_of_change (C:=Try.checked) zgA started (by kernel_rfl) Try.func5
  (ChangeSpec.witness6 (enc:=enc) (C:=Try.checked) false ⟨#[],#[.slice none 0 0],[]⟩ 8 (by kernel_rfl) (by kernel_rfl) (by kernel_rfl) (by kernel_rfl)) ?_
 intro W base args ds gs before hval hW hcnd _
 have hR:zd3 Try.prog Try.f5.params.toList [fun x=>∃a:(List Int),(okS (inK .u8)) a∧x=(.sl 1 (List.map zN a))]:=by rw[Try.params5];exact⟨(zqq (R:=fun x=>∃a:(List Int),(okS (inK .u8)) a∧x=(.sl 1 (List.map zN a))) (by kernel_rfl) (zpI.mono fun ds ⟨a,h,e⟩=>⟨_,⟨a,h,rfl⟩,rfl,e⟩)),trivial⟩
 refine zed (P:=Try.prog) (tb:=4) zeH rfl (fun ds h=> ?_) (by kernel_rfl) (by kernel_rfl) (by kernel_rfl) hR (fun xs h=> ?_) hval hW
 ·rw[Try.params5] at h
  exact match ds,h with
   |[_],_=>rfl
 ·obtain⟨_,_,rfl,⟨a0,h0,rfl⟩,g0⟩:=DsR.cons h
  obtain rfl:=DsR.nil g0
  exact XE (zbZ a0 h0)
theorem zaR:Try.pinned.checked.prog.stopsHeard=true:=by kernel_rfl
theorem zav:Try.pinned.checked.prog.mayEnter=true:=by kernel_rfl
theorem KU:(Rows.fnEndsOnceRow.lifted == Try.pinned.checked.prog.liftsFinal)=true:=by kernel_rfl
theorem zaP:(Try.pinned.checked.prog.make == some Rows.fnEndsOnceRow.make)=true:=by kernel_rfl
theorem zal:(Rows.fnEndsOnceRow.named == Try.pinned.checked.prog.varsNamed 5)=true:=by kernel_rfl
theorem zaI:(Rows.fnEndsOnceRow.recurses == Try.pinned.checked.prog.recurses 5)=true:=by kernel_rfl
theorem zau:(Rows.fnEndsOnceRow.unfollowed == Try.pinned.checked.prog.unfollowed 5)=true:=by kernel_rfl
theorem KZ:(Rows.fnEndsOnceRow.inPlace == Try.pinned.checked.prog.inPlace 5)=true:=by kernel_rfl
theorem zO{a b:Bool}(h:a=true)(h':b=true):(a&&b)=true:=by rw[h,h'];rfl
theorem Ke:joinedFacts Try.pinned.checked.prog 5 Try.f5 Rows.fnEndsOnceSpec Rows.fnEndsOnceRow=true:=
 (zO (zO (zO (zO (zO (zO (zO (zO (zO (zO (zO (zO (zO (zO (zO (zO (zO (zO (zO (zO (zO (zO (zO (zO (zO (zO (zO (zO (zO (zO (zO (by kernel_rfl) (by kernel_rfl)) (by kernel_rfl)) (by kernel_rfl)) (by kernel_rfl)) (by kernel_rfl)) (by kernel_rfl)) (by kernel_rfl)) (by kernel_rfl)) KZ) zau) zaI) zal) (by kernel_rfl)) (by kernel_rfl)) (by kernel_rfl)) (by kernel_rfl)) (by kernel_rfl)) (by kernel_rfl)) (by kernel_rfl)) (by kernel_rfl)) (by kernel_rfl)) (by kernel_rfl)) (by kernel_rfl)) zaR) zav) KU) zaP) (by kernel_rfl)) (by kernel_rfl)) (by kernel_rfl)) (by kernel_rfl))
theorem fnEndsOnce_holds:Rows.FnEndsOnceSaid:=
 OpenClaim.holds_of_wide 5 Try.f5 rfl rfl rfl rfl rfl rfl rfl ⟨rfl,rfl,rfl,rfl,rfl⟩ rfl rfl rfl rfl rfl (by kernel_rfl) Try.func5 Ke
  (of_decide_eq_true (by kernel_rfl)) (by unfold Func.isWrapper;first|(rw[if_pos (by decide+kernel)];kernel_rfl)|(rw[if_neg (by decide+kernel)];exact⟨rfl,rfl⟩))
  (fun os started H enc _=>Xt os started H enc)
end Go.Proofs.Ytlcjjljmjdmobaa
