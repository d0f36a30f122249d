/- The given statement: the law returns true for every input, and its arguments read as they did. Conditions: none. -/
import Derived.Test.YtlcjjljmjdmobaaDFnBegunOncea
import Derived.Test.YtlcjjljmjdmobaaDFnBegunOnceb
import Derived.Test.YtlcjjljmjdmobaaDFnBegunOncec
import Derived.Test.YtlcjjljmjdmobaaDFnBegunOnced
import Derived.Test.YtlcjjljmjdmobaaDFnBegunOncee
import Derived.Test.YtlcjjljmjdmobaaPFnBegunOnce
import Derived.Test.YtlcjjljmjdmobaaBr
import Derived.Test.YtlcjjljmjdmobaaRows
import Derived.ProofKit
import Derived.KernelRfl
set_option linter.unusedVariables false
set_option maxRecDepth 100000
namespace Go.Proofs.Ytlcjjljmjdmobaa
open Go.AW Go.ChangeShapes Go.WideShapes Go.ChangeAt Go.RowKit
theorem zeZ:ownKnob Try.prog.godebug=none:=by kernel_rfl
theorem zd6:laidOutB Try.prog=true:=by kernel_rfl
theorem zof:Rds Try.prog 5 (fun ds=>∃x:Int,(inK .u8) x∧ds=zM x):=Rds.int (by kernel_rfl)
theorem zln:Rds Try.prog 31 (fun ds=>∃x:(List Int),(okS (inK .u8)) x∧ds=znl x):=Rds.slice (f:=zM) (ok:=(inK .u8)) (sz:=1) (by kernel_rfl) (by kernel_rfl) (by decide) (fun _=>rfl) zof
theorem ku(os:Os)(started:os.Started)(H:Type)(enc:TypeId×Value→H):
  ReturnsInHanded {} Try.checked os 4 .any (Rows.fnBegunOnceSpec.pre6 enc Try.prog Try.f4 Rows.fnBegunOnceRow.domain false) (Rows.fnBegunOnceSpec.post enc Try.prog Try.f4 false true false false):=by
 refine returnsInHanded_of_change (C:=Try.checked) zeZ started (by kernel_rfl) Try.func4
  (ChangeSpec.witness6 (enc:=enc) (C:=Try.checked) false ⟨#[],#[.slice none 0 0],[]⟩ 8 (by kernel_rfl) (by kernel_rfl) (by kernel_rfl) (by kernel_rfl)) ?_
 intro W base args ds gs before hval hW hcnd _
 have hR:zc7 Try.prog Try.f4.params.toList [fun x=>∃a:(List Int),(okS (inK .u8)) a∧x=(.sl 1 (List.map zM a))]:=by rw[Try.params4];exact⟨(zoM (R:=fun x=>∃a:(List Int),(okS (inK .u8)) a∧x=(.sl 1 (List.map zM a))) (by kernel_rfl) (zln.mono fun ds ⟨a,h,e⟩=>⟨_,⟨a,h,rfl⟩,rfl,e⟩)),trivial⟩
 refine zdx (P:=Try.prog) (tb:=4) zd6 rfl (fun ds h=> ?_) (by kernel_rfl) (by kernel_rfl) (by kernel_rfl) hR (fun xs h=> ?_) hval hW
 ·rw[Try.params4] at h
  exact match ds,h with
   |[_],_=>rfl
 ·obtain⟨_,_,rfl,⟨a0,h0,rfl⟩,g0⟩:=DsR.cons h
  obtain rfl:=DsR.nil g0
  exact x9 (zak a0 h0)
theorem XU:Try.pinned.checked.prog.stopsHeard=true:=by kernel_rfl
theorem XW:Try.pinned.checked.prog.mayEnter=true:=by kernel_rfl
theorem X8:(Rows.fnBegunOnceRow.lifted == Try.pinned.checked.prog.liftsFinal)=true:=by kernel_rfl
theorem X6:(Try.pinned.checked.prog.make == some Rows.fnBegunOnceRow.make)=true:=by kernel_rfl
theorem Kb:(Rows.fnBegunOnceRow.named == Try.pinned.checked.prog.varsNamed 4)=true:=by kernel_rfl
theorem XS:(Rows.fnBegunOnceRow.recurses == Try.pinned.checked.prog.recurses 4)=true:=by kernel_rfl
theorem X4:(Rows.fnBegunOnceRow.unfollowed == Try.pinned.checked.prog.unfollowed 4)=true:=by kernel_rfl
theorem X7:(Rows.fnBegunOnceRow.inPlace == Try.pinned.checked.prog.inPlace 4)=true:=by kernel_rfl
theorem zI{a b:Bool}(h:a=true)(h':b=true):(a&&b)=true:=by rw[h,h'];rfl
theorem kI:joinedFacts Try.pinned.checked.prog 4 Try.f4 Rows.fnBegunOnceSpec Rows.fnBegunOnceRow=true:=
 (zI (zI (zI (zI (zI (zI (zI (zI (zI (zI (zI (zI (zI (zI (zI (zI (zI (zI (zI (zI (zI (zI (zI (zI (zI (zI (zI (zI (zI (zI (zI (by kernel_rfl) (by kernel_rfl)) (by kernel_rfl)) (by kernel_rfl)) (by kernel_rfl)) (by kernel_rfl)) (by kernel_rfl)) (by kernel_rfl)) (by kernel_rfl)) X7) X4) XS) Kb) (by kernel_rfl)) (by kernel_rfl)) (by kernel_rfl)) (by kernel_rfl)) (by kernel_rfl)) (by kernel_rfl)) (by kernel_rfl)) (by kernel_rfl)) (by kernel_rfl)) (by kernel_rfl)) (by kernel_rfl)) XU) XW) X8) X6) (by kernel_rfl)) (by kernel_rfl)) (by kernel_rfl)) (by kernel_rfl))
theorem fnBegunOnce_holds:Rows.FnBegunOnceSaid:=
 OpenClaim.holds_of_wide 4 Try.f4 rfl rfl rfl rfl rfl rfl rfl ⟨rfl,rfl,rfl,rfl,rfl⟩ rfl rfl rfl rfl rfl (by kernel_rfl) Try.func4 kI
  (of_decide_eq_true (by kernel_rfl)) (by unfold Func.isWrapper;first|(rw[if_pos (by decide+kernel)];kernel_rfl)|(rw[if_neg (by decide+kernel)];exact⟨rfl,rfl⟩))
  (fun os started H enc _=>ku os started H enc)
end Go.Proofs.Ytlcjjljmjdmobaa
