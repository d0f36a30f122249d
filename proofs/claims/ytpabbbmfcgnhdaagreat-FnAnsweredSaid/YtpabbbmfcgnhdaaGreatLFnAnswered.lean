/- The given statement: the law returns true for every input, and its arguments read as they did. Conditions: none. -/
import Derived.Test.YtpabbbmfcgnhdaaGreatDFnAnswereda
import Derived.Test.YtpabbbmfcgnhdaaGreatDFnAnsweredb
import Derived.Test.YtpabbbmfcgnhdaaGreatDFnAnsweredc
import Derived.Test.YtpabbbmfcgnhdaaGreatPFnAnswered
import Derived.Test.YtpabbbmfcgnhdaaGreatBr
import Derived.Test.YtpabbbmfcgnhdaaGreatRows
import Derived.ProofKit
import Derived.KernelRfl
set_option linter.unusedVariables false
set_option maxRecDepth 100000
namespace Go.Proofs.YtpabbbmfcgnhdaaGreat
open Go.AW Go.ChangeShapes Go.WideShapes Go.ChangeAt Go.RowKit
theorem znP:ownKnob Tryz.prog.godebug=none:=by kernel_rfl
theorem zjE:laidOutB Tryz.prog=true:=by kernel_rfl
theorem zIe:Rds Tryz.prog 5 (fun ds=>∃x:Int,(inK .u8) x∧ds=qc x):=Rds.int (by kernel_rfl)
theorem zFP:Rds Tryz.prog 79 (fun ds=>∃x:(List Int),(okS<|inK .u8) x∧ds=zeW x):=Rds.slice (f:=qc) (ok:=(inK .u8)) (sz:=1) (by kernel_rfl) (by kernel_rfl) (by decide) (fun _=>rfl) zIe
theorem zbU(os:Os)(started:os.Started)(H:Type)(enc:TypeId×Value→H):
  ReturnsInHanded {} Tryz.checked os 8 .any (Rows.fnAnsweredSpec.pre6 enc Tryz.prog Tryz.f8 Rows.fnAnsweredRow.domain false) (Rows.fnAnsweredSpec.post enc Tryz.prog Tryz.f8 false true false false):=by
 refine returnsInHanded_of_change (C:=Tryz.checked) znP started (by kernel_rfl) Tryz.func8
  (ChangeSpec.witness6 (enc:=enc) (C:=Tryz.checked) false ⟨#[],#[.slice none 0 0],[]⟩ 8 (by kernel_rfl) (by kernel_rfl) (by kernel_rfl) (by kernel_rfl)) ?_
 intro W base args ds gs before hval hW hcnd _;have hR:zhZ Tryz.prog Tryz.f8.params.toList [fun x=>∃a:(List Int),(okS<|inK .u8) a∧x=(.sl 1<|List.map qc a)]:=by rw[Tryz.params8];exact⟨(zJw (R:=fun x=>∃a:(List Int),(okS<|inK .u8) a∧x=(.sl 1<|List.map qc a)) (by kernel_rfl) (zFP.mono fun ds ⟨a,h,e⟩=>⟨_,⟨a,h,rfl⟩,rfl,e⟩)),trivial⟩
 refine ziS (P:=Tryz.prog) (tb:=4) zjE O (fun ds h=> ?_) (by kernel_rfl) (by kernel_rfl) (by kernel_rfl) hR (fun xs h=> ?_) hval hW
 ·rw[Tryz.params8] at h;exact match ds,h with
   |[_],_=>rfl
 ·obtain⟨_,_,rfl,⟨a0,h0,rfl⟩,g0⟩:=DsR.cons h;obtain rfl:=DsR.nil g0;exact zbF (zfJ a0 h0)
theorem zeo:Tryz.pinned.checked.prog.stopsHeard=true:=by kernel_rfl
theorem zdV:Tryz.pinned.checked.prog.mayEnter=true:=by kernel_rfl
theorem zdl:(Rows.fnAnsweredRow.lifted == Tryz.pinned.checked.prog.liftsFinal)=true:=by kernel_rfl
theorem zdC:(Tryz.pinned.checked.prog.make == some Rows.fnAnsweredRow.make)=true:=by kernel_rfl
theorem zec:(Rows.fnAnsweredRow.named == Tryz.pinned.checked.prog.varsNamed 8)=true:=by kernel_rfl
theorem zej:(Rows.fnAnsweredRow.recurses == Tryz.pinned.checked.prog.recurses 8)=true:=by kernel_rfl
theorem zdU:(Rows.fnAnsweredRow.unfollowed == Tryz.pinned.checked.prog.unfollowed 8)=true:=by kernel_rfl
theorem zed:(Rows.fnAnsweredRow.inPlace == Tryz.pinned.checked.prog.inPlace 8)=true:=by kernel_rfl
theorem zO{a b:Bool}(h:a=true)(h':b=true):(a&&b)=true:=by rw[h,h'];rfl
theorem zci:joinedFacts Tryz.pinned.checked.prog 8 Tryz.f8 Rows.fnAnsweredSpec Rows.fnAnsweredRow=true:=
 (zO (zO (zO (zO (zO (zO (zO (zO (zO (zO (zO (zO (zO (zO (zO (zO (zO (zO (zO (zO (zO (zO (zO (zO (zO (zO (zO (zO (zO (zO (zO (by kernel_rfl) (by kernel_rfl)) (by kernel_rfl)) (by kernel_rfl)) (by kernel_rfl)) (by kernel_rfl)) (by kernel_rfl)) (by kernel_rfl)) (by kernel_rfl)) zed) zdU) zej) zec) (by kernel_rfl)) (by kernel_rfl)) (by kernel_rfl)) (by kernel_rfl)) (by kernel_rfl)) (by kernel_rfl)) (by kernel_rfl)) (by kernel_rfl)) (by kernel_rfl)) (by kernel_rfl)) (by kernel_rfl)) zeo) zdV) zdl) zdC) (by kernel_rfl)) (by kernel_rfl)) (by kernel_rfl)) (by kernel_rfl))
theorem fnAnswered_holds:Rows.FnAnsweredSaid:=
 OpenClaim.holds_of_wide 8 Tryz.f8 O O O O O O O ⟨rfl,rfl,rfl,rfl,rfl⟩ O O O O O (by kernel_rfl) Tryz.func8 zci
  (of_decide_eq_true (by kernel_rfl)) (by unfold Func.isWrapper;first|(rw[if_pos (by decide+kernel)];kernel_rfl)|(rw[if_neg (by decide+kernel)];exact⟨rfl,rfl⟩))
  (fun os started H enc _=>zbU os started H enc)
end Go.Proofs.YtpabbbmfcgnhdaaGreat
