/- The given statement: the law returns true for every input, and its arguments read as they did. Conditions: none. -/
import Derived.Test.YtlcjjljmjdmobaaDStoreJoina
import Derived.Test.YtlcjjljmjdmobaaPStoreJoin
import Derived.Test.YtlcjjljmjdmobaaBr
import Derived.Test.YtlcjjljmjdmobaaRows
import Derived.ProofKit
import Derived.KernelRfl
set_option linter.unusedVariables false
set_option maxRecDepth 100000
namespace Go.Proofs.Ytlcjjljmjdmobaa
open Go.AW Go.ChangeShapes Go.WideShapes Go.ChangeAt Go.RowKit
theorem law_own:ownKnob Try.prog.godebug=none:=by kernel_rfl
theorem law_laid:laidOutB Try.prog=true:=by kernel_rfl
theorem rd_3:Rds Try.prog 3 (fun ds=>∃x:Int,(inK .i64) x∧ds=d_i64 x):=Rds.int (by kernel_rfl)
theorem rd_77:Rds Try.prog 77 (fun ds=>∃x:TCell,ok_TCell x∧ds=d_TCell x):=by
 refine(Rds.struct (Rs:=[(1,fun ds=>∃x:Int,(inK .i64) x∧ds=d_i64 x),(1,fun ds=>∃x:Int,(inK .i64) x∧ds=d_i64 x)]) Try.underlying77 ⟨rfl,(by kernel_rfl:_=1),rd_3,⟨rfl,(by kernel_rfl:_=1),rd_3,trivial⟩⟩ (by kernel_rfl)).mono ?_
 rintro ds ⟨_,_,rfl,⟨x0,h0,rfl⟩,⟨_,_,rfl,⟨x1,h1,rfl⟩,rfl⟩⟩
 exact⟨⟨x0,x1⟩,⟨h0,h1⟩,rfl⟩
theorem rd_22:Rds Try.prog 22 (fun ds=>∃x:(List TCell),(okS ok_TCell) x∧ds=dS_TCell x):=Rds.slice (f:=d_TCell) (ok:=ok_TCell) (sz:=2) (by kernel_rfl) (by kernel_rfl) (by decide) (fun _=>rfl) rd_77
theorem FnExactStoreJoin_lifted(os:Os)(started:os.Started)(H:Type)(enc:TypeId×Value→H):
  ReturnsInHanded {} Try.checked os 3 .any (Rows.fnExactStoreJoinSpec.pre6 enc Try.prog Try.f3 Rows.fnExactStoreJoinRow.domain false) (Rows.fnExactStoreJoinSpec.post enc Try.prog Try.f3 false true false false):=by
 refine returnsInHanded_of_change (C:=Try.checked) law_own started (by kernel_rfl) Try.func3
  (ChangeSpec.witness6 (enc:=enc) (C:=Try.checked) false ⟨#[],#[.slice none 0 0,.slice none 0 0],[]⟩ 8 (by kernel_rfl) (by kernel_rfl) (by kernel_rfl) (by kernel_rfl)) ?_
 intro W base args ds gs before hval hW hcnd _
 have hR:ArgsR Try.prog Try.f3.params.toList [fun x=>∃a:(List TCell),(okS ok_TCell) a∧x=(.sl 2 (List.map d_TCell a)),fun x=>∃a:(List TCell),(okS ok_TCell) a∧x=(.sl 2 (List.map d_TCell a))]:=by rw[Try.params3];exact⟨(argC (R:=fun x=>∃a:(List TCell),(okS ok_TCell) a∧x=(.sl 2 (List.map d_TCell a))) (by kernel_rfl) (rd_22.mono fun ds ⟨a,h,e⟩=>⟨_,⟨a,h,rfl⟩,rfl,e⟩)),⟨(argC (R:=fun x=>∃a:(List TCell),(okS ok_TCell) a∧x=(.sl 2 (List.map d_TCell a))) (by kernel_rfl) (rd_22.mono fun ds ⟨a,h,e⟩=>⟨_,⟨a,h,rfl⟩,rfl,e⟩)),trivial⟩⟩
 refine law_calls (P:=Try.prog) (tb:=4) law_laid rfl (fun ds h=> ?_) (by kernel_rfl) (by kernel_rfl) (by kernel_rfl) hR (fun xs h=> ?_) hval hW
 ·rw[Try.params3] at h
  exact match ds,h with
   |[_,_],_=>rfl
 ·obtain⟨_,_,rfl,⟨a0,h0,rfl⟩,g0⟩:=DsR.cons h
  obtain⟨_,_,rfl,⟨a1,h1,rfl⟩,g1⟩:=DsR.cons g0
  obtain rfl:=DsR.nil g1
  exact c_laws_FnExactStoreJoin (p_FnExactStoreJoin a0 a1 h0 h1)
theorem FnExactStoreJoin_f25:Try.pinned.checked.prog.stopsHeard=true:=by kernel_rfl
theorem FnExactStoreJoin_f26:Try.pinned.checked.prog.mayEnter=true:=by kernel_rfl
theorem FnExactStoreJoin_f27:(Rows.fnExactStoreJoinRow.lifted == Try.pinned.checked.prog.liftsFinal)=true:=by kernel_rfl
theorem FnExactStoreJoin_f28:(Try.pinned.checked.prog.make == some Rows.fnExactStoreJoinRow.make)=true:=by kernel_rfl
theorem FnExactStoreJoin_f13:(Rows.fnExactStoreJoinRow.named == Try.pinned.checked.prog.varsNamed 3)=true:=by kernel_rfl
theorem FnExactStoreJoin_f12:(Rows.fnExactStoreJoinRow.recurses == Try.pinned.checked.prog.recurses 3)=true:=by kernel_rfl
theorem FnExactStoreJoin_f11:(Rows.fnExactStoreJoinRow.unfollowed == Try.pinned.checked.prog.unfollowed 3)=true:=by kernel_rfl
theorem FnExactStoreJoin_f10:(Rows.fnExactStoreJoinRow.inPlace == Try.pinned.checked.prog.inPlace 3)=true:=by kernel_rfl
theorem FnExactStoreJoin_bi{a b:Bool}(h:a=true)(h':b=true):(a&&b)=true:=by rw[h,h'];rfl
theorem FnExactStoreJoin_facts:joinedFacts Try.pinned.checked.prog 3 Try.f3 Rows.fnExactStoreJoinSpec Rows.fnExactStoreJoinRow=true:=
 (FnExactStoreJoin_bi (FnExactStoreJoin_bi (FnExactStoreJoin_bi (FnExactStoreJoin_bi (FnExactStoreJoin_bi (FnExactStoreJoin_bi (FnExactStoreJoin_bi (FnExactStoreJoin_bi (FnExactStoreJoin_bi (FnExactStoreJoin_bi (FnExactStoreJoin_bi (FnExactStoreJoin_bi (FnExactStoreJoin_bi (FnExactStoreJoin_bi (FnExactStoreJoin_bi (FnExactStoreJoin_bi (FnExactStoreJoin_bi (FnExactStoreJoin_bi (FnExactStoreJoin_bi (FnExactStoreJoin_bi (FnExactStoreJoin_bi (FnExactStoreJoin_bi (FnExactStoreJoin_bi (FnExactStoreJoin_bi (FnExactStoreJoin_bi (FnExactStoreJoin_bi (FnExactStoreJoin_bi (FnExactStoreJoin_bi (FnExactStoreJoin_bi (FnExactStoreJoin_bi (FnExactStoreJoin_bi (by kernel_rfl) (by kernel_rfl)) (by kernel_rfl)) (by kernel_rfl)) (by kernel_rfl)) (by kernel_rfl)) (by kernel_rfl)) (by kernel_rfl)) (by kernel_rfl)) FnExactStoreJoin_f10) FnExactStoreJoin_f11) FnExactStoreJoin_f12) FnExactStoreJoin_f13) (by kernel_rfl)) (by kernel_rfl)) (by kernel_rfl)) (by kernel_rfl)) (by kernel_rfl)) (by kernel_rfl)) (by kernel_rfl)) (by kernel_rfl)) (by kernel_rfl)) (by kernel_rfl)) (by kernel_rfl)) FnExactStoreJoin_f25) FnExactStoreJoin_f26) FnExactStoreJoin_f27) FnExactStoreJoin_f28) (by kernel_rfl)) (by kernel_rfl)) (by kernel_rfl)) (by kernel_rfl))
theorem fnExactStoreJoin_holds:Rows.FnExactStoreJoinSaid:=
 OpenClaim.holds_of_wide 3 Try.f3 rfl rfl rfl rfl rfl rfl rfl ⟨rfl,rfl,rfl,rfl,rfl⟩ rfl rfl rfl rfl rfl (by kernel_rfl) Try.func3 FnExactStoreJoin_facts
  (of_decide_eq_true (by kernel_rfl)) (by unfold Func.isWrapper;first|(rw[if_pos (by decide+kernel)];kernel_rfl)|(rw[if_neg (by decide+kernel)];exact⟨rfl,rfl⟩))
  (fun os started H enc _=>FnExactStoreJoin_lifted os started H enc)
end Go.Proofs.Ytlcjjljmjdmobaa
