/- The given statement: the law returns true for every input, and its arguments read as they did. Conditions: none. -/
import Derived.Test.YtnpbflgkgjnljaaDFnMoves15a
import Derived.Test.YtnpbflgkgjnljaaDFnMoves15b
import Derived.Test.YtnpbflgkgjnljaaDFnMoves15c
import Derived.Test.YtnpbflgkgjnljaaDFnMoves15d
import Derived.Test.YtnpbflgkgjnljaaPFnMoves15
import Derived.Test.YtnpbflgkgjnljaaBr
import Derived.Test.YtnpbflgkgjnljaaRows
import Derived.ProofKit
import Derived.KernelRfl
set_option linter.unusedVariables false
set_option maxRecDepth 100000
namespace Go.Proofs.Ytnpbflgkgjnljaa
open Go.AW Go.ChangeShapes Go.WideShapes Go.ChangeAt Go.RowKit
theorem law_own:ownKnob Try.prog.godebug=none:=by kernel_rfl
theorem law_laid:laidOutB Try.prog=true:=by kernel_rfl
theorem rd_5:Rds Try.prog 5 (fun ds=>∃x:Int,(inK .u8) x∧ds=d_u8 x):=Rds.int (by kernel_rfl)
theorem rd_22:Rds Try.prog 22 (fun ds=>∃x:(List Int),(okS (inK .u8)) x∧ds=dS_u8 x):=Rds.slice (f:=d_u8) (ok:=(inK .u8)) (sz:=1) (by kernel_rfl) (by kernel_rfl) (by decide) (fun _=>rfl) rd_5
theorem FnMoves15_lifted(os:Os)(started:os.Started)(H:Type)(enc:TypeId×Value→H):
  ReturnsInHanded {} Try.checked os 4 .any (Rows.fnMoves15Spec.pre6 enc Try.prog Try.f4 Rows.fnMoves15Row.domain false) (Rows.fnMoves15Spec.post enc Try.prog Try.f4 false true false false):=by
 refine returnsInHanded_of_change (C:=Try.checked) law_own started (by kernel_rfl) Try.func4
  (ChangeSpec.witness6 (enc:=enc) (C:=Try.checked) false ⟨#[],#[.slice none 0 0],[]⟩ 8 (by kernel_rfl) (by kernel_rfl) (by kernel_rfl) (by kernel_rfl)) ?_
 intro W base args ds gs before hval hW hcnd _
 have hR:ArgsR Try.prog Try.f4.params.toList [fun x=>∃a:(List Int),(okS (inK .u8)) a∧x=(.sl 1 (List.map d_u8 a))]:=by rw[Try.params4];exact⟨(argC (R:=fun x=>∃a:(List Int),(okS (inK .u8)) a∧x=(.sl 1 (List.map d_u8 a))) (by kernel_rfl) (rd_22.mono fun ds ⟨a,h,e⟩=>⟨_,⟨a,h,rfl⟩,rfl,e⟩)),trivial⟩
 refine law_calls (P:=Try.prog) (tb:=4) law_laid rfl (fun ds h=> ?_) (by kernel_rfl) (by kernel_rfl) (by kernel_rfl) hR (fun xs h=> ?_) hval hW
 ·rw[Try.params4] at h
  exact match ds,h with
   |[_],_=>rfl
 ·obtain⟨_,_,rfl,⟨a0,h0,rfl⟩,g0⟩:=DsR.cons h
  obtain rfl:=DsR.nil g0
  exact c_laws_FnMoves15 (p_FnMoves15 a0 h0)
theorem FnMoves15_f25:Try.pinned.checked.prog.stopsHeard=true:=by kernel_rfl
theorem FnMoves15_f26:Try.pinned.checked.prog.mayEnter=true:=by kernel_rfl
theorem FnMoves15_f27:(Rows.fnMoves15Row.lifted == Try.pinned.checked.prog.liftsFinal)=true:=by kernel_rfl
theorem FnMoves15_f28:(Try.pinned.checked.prog.make == some Rows.fnMoves15Row.make)=true:=by kernel_rfl
theorem FnMoves15_f13:(Rows.fnMoves15Row.named == Try.pinned.checked.prog.varsNamed 4)=true:=by kernel_rfl
theorem FnMoves15_f12:(Rows.fnMoves15Row.recurses == Try.pinned.checked.prog.recurses 4)=true:=by kernel_rfl
theorem FnMoves15_f11:(Rows.fnMoves15Row.unfollowed == Try.pinned.checked.prog.unfollowed 4)=true:=by kernel_rfl
theorem FnMoves15_f10:(Rows.fnMoves15Row.inPlace == Try.pinned.checked.prog.inPlace 4)=true:=by kernel_rfl
theorem FnMoves15_bi{a b:Bool}(h:a=true)(h':b=true):(a&&b)=true:=by rw[h,h'];rfl
theorem FnMoves15_facts:joinedFacts Try.pinned.checked.prog 4 Try.f4 Rows.fnMoves15Spec Rows.fnMoves15Row=true:=
 (FnMoves15_bi (FnMoves15_bi (FnMoves15_bi (FnMoves15_bi (FnMoves15_bi (FnMoves15_bi (FnMoves15_bi (FnMoves15_bi (FnMoves15_bi (FnMoves15_bi (FnMoves15_bi (FnMoves15_bi (FnMoves15_bi (FnMoves15_bi (FnMoves15_bi (FnMoves15_bi (FnMoves15_bi (FnMoves15_bi (FnMoves15_bi (FnMoves15_bi (FnMoves15_bi (FnMoves15_bi (FnMoves15_bi (FnMoves15_bi (FnMoves15_bi (FnMoves15_bi (FnMoves15_bi (FnMoves15_bi (FnMoves15_bi (FnMoves15_bi (FnMoves15_bi (by kernel_rfl) (by kernel_rfl)) (by kernel_rfl)) (by kernel_rfl)) (by kernel_rfl)) (by kernel_rfl)) (by kernel_rfl)) (by kernel_rfl)) (by kernel_rfl)) FnMoves15_f10) FnMoves15_f11) FnMoves15_f12) FnMoves15_f13) (by kernel_rfl)) (by kernel_rfl)) (by kernel_rfl)) (by kernel_rfl)) (by kernel_rfl)) (by kernel_rfl)) (by kernel_rfl)) (by kernel_rfl)) (by kernel_rfl)) (by kernel_rfl)) (by kernel_rfl)) FnMoves15_f25) FnMoves15_f26) FnMoves15_f27) FnMoves15_f28) (by kernel_rfl)) (by kernel_rfl)) (by kernel_rfl)) (by kernel_rfl))
theorem fnMoves15_holds:Rows.FnMoves15Said:=
 OpenClaim.holds_of_wide 4 Try.f4 rfl rfl rfl rfl rfl rfl rfl ⟨rfl,rfl,rfl,rfl,rfl⟩ rfl rfl rfl rfl rfl (by kernel_rfl) Try.func4 FnMoves15_facts
  (of_decide_eq_true (by kernel_rfl)) (by unfold Func.isWrapper;first|(rw[if_pos (by decide+kernel)];kernel_rfl)|(rw[if_neg (by decide+kernel)];exact⟨rfl,rfl⟩))
  (fun os started H enc _=>FnMoves15_lifted os started H enc)
end Go.Proofs.Ytnpbflgkgjnljaa
