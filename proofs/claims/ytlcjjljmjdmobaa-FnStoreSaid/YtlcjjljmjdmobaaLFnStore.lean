/- The given statement: the law returns true for every input, and its arguments read as they did. Conditions: none. -/
import Derived.Test.YtlcjjljmjdmobaaDFnStorea
import Derived.Test.YtlcjjljmjdmobaaDFnStoreb
import Derived.Test.YtlcjjljmjdmobaaPFnStore
import Derived.Test.YtlcjjljmjdmobaaBr
import Derived.Test.YtlcjjljmjdmobaaRows
import Derived.ProofKit
import Derived.KernelRfl
set_option linter.unusedVariables false
set_option maxRecDepth 100000
namespace Go.Proofs.Ytlcjjljmjdmobaa
open Go.AW Go.ChangeShapes Go.WideShapes Go.ChangeAt Go.RowKit
theorem law_own:ownKnob Try.prog.godebug=none:=by kernel_rfl
theorem law_laid:laidOutB Try.prog=true:=by kernel_rfl
theorem rd_5:Rds Try.prog 5 (fun ds=>∃x:Int,(inK .u8) x∧ds=d_u8 x):=Rds.int (by kernel_rfl)
theorem rd_31:Rds Try.prog 31 (fun ds=>∃x:(List Int),(okS (inK .u8)) x∧ds=dS_u8 x):=Rds.slice (f:=d_u8) (ok:=(inK .u8)) (sz:=1) (by kernel_rfl) (by kernel_rfl) (by decide) (fun _=>rfl) rd_5
theorem FnStore_lifted(os:Os)(started:os.Started)(H:Type)(enc:TypeId×Value→H):
  ReturnsInHanded {} Try.checked os 7 .any (Rows.fnStoreSpec.pre6 enc Try.prog Try.f7 Rows.fnStoreRow.domain false) (Rows.fnStoreSpec.post enc Try.prog Try.f7 false true false false):=by
 refine returnsInHanded_of_change (C:=Try.checked) law_own started (by kernel_rfl) Try.func7
  (ChangeSpec.witness6 (enc:=enc) (C:=Try.checked) false ⟨#[],#[.slice none 0 0],[]⟩ 8 (by kernel_rfl) (by kernel_rfl) (by kernel_rfl) (by kernel_rfl)) ?_
 intro W base args ds gs before hval hW hcnd _
 have hR:ArgsR Try.prog Try.f7.params.toList [fun x=>∃a:(List Int),(okS (inK .u8)) a∧x=(.sl 1 (List.map d_u8 a))]:=by rw[Try.params7];exact⟨(argC (R:=fun x=>∃a:(List Int),(okS (inK .u8)) a∧x=(.sl 1 (List.map d_u8 a))) (by kernel_rfl) (rd_31.mono fun ds ⟨a,h,e⟩=>⟨_,⟨a,h,rfl⟩,rfl,e⟩)),trivial⟩
 refine law_calls (P:=Try.prog) (tb:=4) law_laid rfl (fun ds h=> ?_) (by kernel_rfl) (by kernel_rfl) (by kernel_rfl) hR (fun xs h=> ?_) hval hW
 ·rw[Try.params7] at h
  exact match ds,h with
   |[_],_=>rfl
 ·obtain⟨_,_,rfl,⟨a0,h0,rfl⟩,g0⟩:=DsR.cons h
  obtain rfl:=DsR.nil g0
  exact c_laws_FnStore (p_FnStore a0 h0)
theorem FnStore_f25:Try.pinned.checked.prog.stopsHeard=true:=by kernel_rfl
theorem FnStore_f26:Try.pinned.checked.prog.mayEnter=true:=by kernel_rfl
theorem FnStore_f27:(Rows.fnStoreRow.lifted == Try.pinned.checked.prog.liftsFinal)=true:=by kernel_rfl
theorem FnStore_f28:(Try.pinned.checked.prog.make == some Rows.fnStoreRow.make)=true:=by kernel_rfl
theorem FnStore_f13:(Rows.fnStoreRow.named == Try.pinned.checked.prog.varsNamed 7)=true:=by kernel_rfl
theorem FnStore_f12:(Rows.fnStoreRow.recurses == Try.pinned.checked.prog.recurses 7)=true:=by kernel_rfl
theorem FnStore_f11:(Rows.fnStoreRow.unfollowed == Try.pinned.checked.prog.unfollowed 7)=true:=by kernel_rfl
theorem FnStore_f10:(Rows.fnStoreRow.inPlace == Try.pinned.checked.prog.inPlace 7)=true:=by kernel_rfl
theorem FnStore_bi{a b:Bool}(h:a=true)(h':b=true):(a&&b)=true:=by rw[h,h'];rfl
theorem FnStore_facts:joinedFacts Try.pinned.checked.prog 7 Try.f7 Rows.fnStoreSpec Rows.fnStoreRow=true:=
 (FnStore_bi (FnStore_bi (FnStore_bi (FnStore_bi (FnStore_bi (FnStore_bi (FnStore_bi (FnStore_bi (FnStore_bi (FnStore_bi (FnStore_bi (FnStore_bi (FnStore_bi (FnStore_bi (FnStore_bi (FnStore_bi (FnStore_bi (FnStore_bi (FnStore_bi (FnStore_bi (FnStore_bi (FnStore_bi (FnStore_bi (FnStore_bi (FnStore_bi (FnStore_bi (FnStore_bi (FnStore_bi (FnStore_bi (FnStore_bi (FnStore_bi (by kernel_rfl) (by kernel_rfl)) (by kernel_rfl)) (by kernel_rfl)) (by kernel_rfl)) (by kernel_rfl)) (by kernel_rfl)) (by kernel_rfl)) (by kernel_rfl)) FnStore_f10) FnStore_f11) FnStore_f12) FnStore_f13) (by kernel_rfl)) (by kernel_rfl)) (by kernel_rfl)) (by kernel_rfl)) (by kernel_rfl)) (by kernel_rfl)) (by kernel_rfl)) (by kernel_rfl)) (by kernel_rfl)) (by kernel_rfl)) (by kernel_rfl)) FnStore_f25) FnStore_f26) FnStore_f27) FnStore_f28) (by kernel_rfl)) (by kernel_rfl)) (by kernel_rfl)) (by kernel_rfl))
theorem fnStore_holds:Rows.FnStoreSaid:=
 OpenClaim.holds_of_wide 7 Try.f7 rfl rfl rfl rfl rfl rfl rfl ⟨rfl,rfl,rfl,rfl,rfl⟩ rfl rfl rfl rfl rfl (by kernel_rfl) Try.func7 FnStore_facts
  (of_decide_eq_true (by kernel_rfl)) (by unfold Func.isWrapper;first|(rw[if_pos (by decide+kernel)];kernel_rfl)|(rw[if_neg (by decide+kernel)];exact⟨rfl,rfl⟩))
  (fun os started H enc _=>FnStore_lifted os started H enc)
end Go.Proofs.Ytlcjjljmjdmobaa
