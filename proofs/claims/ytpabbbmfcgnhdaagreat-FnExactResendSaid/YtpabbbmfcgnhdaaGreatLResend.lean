/- The given statement: the law returns true for every input, and its arguments read as they did. Conditions: none. -/
import Derived.Test.YtpabbbmfcgnhdaaGreatDResenda
import Derived.Test.YtpabbbmfcgnhdaaGreatDResendb
import Derived.Test.YtpabbbmfcgnhdaaGreatDResendc
import Derived.Test.YtpabbbmfcgnhdaaGreatDResendd
import Derived.Test.YtpabbbmfcgnhdaaGreatDResende
import Derived.Test.YtpabbbmfcgnhdaaGreatDResendf
import Derived.Test.YtpabbbmfcgnhdaaGreatPResend
import Derived.Test.YtpabbbmfcgnhdaaGreatBr
import Derived.Test.YtpabbbmfcgnhdaaGreatRows
import Derived.ProofKit
import Derived.KernelRfl
set_option linter.unusedVariables false
set_option maxRecDepth 100000
namespace Go.Proofs.YtpabbbmfcgnhdaaGreat
open Go.AW Go.ChangeShapes Go.WideShapes Go.ChangeAt Go.RowKit
theorem zjm:ownKnob Tryz.prog.godebug=none:=by kernel_rfl
theorem zh5:laidOutB Tryz.prog=true:=by kernel_rfl
theorem xi:Rds Tryz.prog 3 (fun ds=>∃x:Int,(inK .i64) x∧ds=jN x):=Rds.int (by kernel_rfl)
theorem zl5:Rds Tryz.prog 295 (fun ds=>∃x:ji,zec x∧ds=XR x):=by
 refine(Rds.struct (Rs:=[(1,fun ds=>∃x:Int,(inK .i64) x∧ds=jN x),(1,fun ds=>∃x:Int,(inK .i64) x∧ds=jN x),(1,fun ds=>∃x:Int,(inK .i64) x∧ds=jN x)]) Tryz.underlying295 ⟨rfl,(by kernel_rfl:_=1),xi,⟨rfl,(by kernel_rfl:_=1),xi,⟨rfl,(by kernel_rfl:_=1),xi,trivial⟩⟩⟩ (by kernel_rfl)).mono ?_;rintro ds ⟨_,_,rfl,⟨x0,h0,rfl⟩,⟨_,_,rfl,⟨x1,h1,rfl⟩,⟨_,_,rfl,⟨x2,h2,rfl⟩,rfl⟩⟩⟩;exact⟨⟨x0,x1,x2⟩,⟨h0,h1,h2⟩,rfl⟩
theorem zrU:Rds Tryz.prog 297 (fun ds=>∃x:zA,kw x∧ds=zf x):=by
 refine(Rds.struct (Rs:=[(1,fun ds=>∃x:Int,(inK .i64) x∧ds=jN x),(1,fun ds=>∃x:Int,(inK .i64) x∧ds=jN x),(3,fun ds=>∃x:ji,zec x∧ds=XR x)]) Tryz.underlying297 ⟨rfl,(by kernel_rfl:_=1),xi,⟨rfl,(by kernel_rfl:_=1),xi,⟨rfl,(by kernel_rfl:_=3),zl5,trivial⟩⟩⟩ (by kernel_rfl)).mono ?_;rintro ds ⟨_,_,rfl,⟨x0,h0,rfl⟩,⟨_,_,rfl,⟨x1,h1,rfl⟩,⟨_,_,rfl,⟨x2,h2,rfl⟩,rfl⟩⟩⟩;exact⟨⟨x0,x1,x2⟩,⟨h0,h1,h2⟩,rfl⟩
theorem zuQ:Rds Tryz.prog 26 (fun ds=>∃x:(List zA),(okS kw) x∧ds=zdP x):=Rds.slice (f:=zf) (ok:=kw) (sz:=5) (by kernel_rfl) (by kernel_rfl) (by decide) (fun _=>rfl) zrU
theorem zjR:Rds Tryz.prog 342 (fun ds=>∃x:zS,XL x∧ds=zg x):=by
 refine(Rds.struct (Rs:=[(1,fun ds=>∃x:Int,(inK .i64) x∧ds=jN x),(1,fun ds=>∃x:Int,(inK .i64) x∧ds=jN x),(1,fun ds=>∃x:Int,(inK .i64) x∧ds=jN x)]) Tryz.underlying342 ⟨rfl,(by kernel_rfl:_=1),xi,⟨rfl,(by kernel_rfl:_=1),xi,⟨rfl,(by kernel_rfl:_=1),xi,trivial⟩⟩⟩ (by kernel_rfl)).mono ?_;rintro ds ⟨_,_,rfl,⟨x0,h0,rfl⟩,⟨_,_,rfl,⟨x1,h1,rfl⟩,⟨_,_,rfl,⟨x2,h2,rfl⟩,rfl⟩⟩⟩;exact⟨⟨x0,x1,x2⟩,⟨h0,h1,h2⟩,rfl⟩
theorem zsf:Rds Tryz.prog 23 (fun ds=>∃x:(List zS),(okS XL) x∧ds=zfx x):=Rds.slice (f:=zg) (ok:=XL) (sz:=3) (by kernel_rfl) (by kernel_rfl) (by decide) (fun _=>rfl) zjR
theorem zo6:Rds Tryz.prog 241 (fun ds=>∃x:zT,XU x∧ds=ze x):=by
 refine(Rds.struct (Rs:=[(1,fun ds=>∃x:Int,(inK .i64) x∧ds=jN x),(1,fun ds=>∃x:Int,(inK .i64) x∧ds=jN x)]) Tryz.underlying241 ⟨rfl,(by kernel_rfl:_=1),xi,⟨rfl,(by kernel_rfl:_=1),xi,trivial⟩⟩ (by kernel_rfl)).mono ?_;rintro ds ⟨_,_,rfl,⟨x0,h0,rfl⟩,⟨_,_,rfl,⟨x1,h1,rfl⟩,rfl⟩⟩;exact⟨⟨x0,x1⟩,⟨h0,h1⟩,rfl⟩
theorem zxU:Rds Tryz.prog 22 (fun ds=>∃x:(List zT),(okS XU) x∧ds=zfg x):=Rds.slice (f:=ze) (ok:=XU) (sz:=2) (by kernel_rfl) (by kernel_rfl) (by decide) (fun _=>rfl) zo6
theorem zvS:Rds Tryz.prog 25 (fun ds=>∃x:zK,kB x∧ds=jK x):=by
 refine(Rds.struct (Rs:=[(1,fun ds=>∃x:(List zT),(okS XU) x∧ds=zfg x),(1,fun ds=>∃x:(List zS),(okS XL) x∧ds=zfx x)]) Tryz.underlying25 ⟨rfl,(by kernel_rfl:_=1),zxU,⟨rfl,(by kernel_rfl:_=1),zsf,trivial⟩⟩ (by kernel_rfl)).mono ?_;rintro ds ⟨_,_,rfl,⟨x0,h0,rfl⟩,⟨_,_,rfl,⟨x1,h1,rfl⟩,rfl⟩⟩;exact⟨⟨x0,x1⟩,⟨h0,h1⟩,rfl⟩
theorem zjs:Rds Tryz.prog 28 (fun ds=>∃x:z4,kV x∧ds=j7 x):=by
 refine(Rds.struct (Rs:=[(1,fun ds=>∃x:Int,(inK .i64) x∧ds=jN x),(2,fun ds=>∃x:zK,kB x∧ds=jK x),(1,fun ds=>∃x:(List zA),(okS kw) x∧ds=zdP x)]) Tryz.underlying28 ⟨rfl,(by kernel_rfl:_=1),xi,⟨rfl,(by kernel_rfl:_=2),zvS,⟨rfl,(by kernel_rfl:_=1),zuQ,trivial⟩⟩⟩ (by kernel_rfl)).mono ?_;rintro ds ⟨_,_,rfl,⟨x0,h0,rfl⟩,⟨_,_,rfl,⟨x1,h1,rfl⟩,⟨_,_,rfl,⟨x2,h2,rfl⟩,rfl⟩⟩⟩;exact⟨⟨x0,x1,x2⟩,⟨h0,h1,h2⟩,rfl⟩
theorem zmL:Rds Tryz.prog 213 (fun ds=>∃x:zE,Y8 x∧ds=zo x):=by
 refine(Rds.struct (Rs:=[(1,fun ds=>∃x:Int,(inK .i64) x∧ds=jN x),(1,fun ds=>∃x:Int,(inK .i64) x∧ds=jN x),(1,fun ds=>∃x:Int,(inK .i64) x∧ds=jN x),(1,fun ds=>∃x:Int,(inK .i64) x∧ds=jN x),(1,fun ds=>∃x:Int,(inK .i64) x∧ds=jN x),(1,fun ds=>∃x:Int,(inK .i64) x∧ds=jN x),(4,fun ds=>∃x:z4,kV x∧ds=j7 x)]) Tryz.underlying213 ⟨rfl,(by kernel_rfl:_=1),xi,⟨rfl,(by kernel_rfl:_=1),xi,⟨rfl,(by kernel_rfl:_=1),xi,⟨rfl,(by kernel_rfl:_=1),xi,⟨rfl,(by kernel_rfl:_=1),xi,⟨rfl,(by kernel_rfl:_=1),xi,⟨rfl,(by kernel_rfl:_=4),zjs,trivial⟩⟩⟩⟩⟩⟩⟩ (by kernel_rfl)).mono ?_;rintro ds ⟨_,_,rfl,⟨x0,h0,rfl⟩,⟨_,_,rfl,⟨x1,h1,rfl⟩,⟨_,_,rfl,⟨x2,h2,rfl⟩,⟨_,_,rfl,⟨x3,h3,rfl⟩,⟨_,_,rfl,⟨x4,h4,rfl⟩,⟨_,_,rfl,⟨x5,h5,rfl⟩,⟨_,_,rfl,⟨x6,h6,rfl⟩,rfl⟩⟩⟩⟩⟩⟩⟩;exact⟨⟨x0,x1,x2,x3,x4,x5,x6⟩,⟨h0,h1,h2,h3,h4,h5,h6⟩,rfl⟩
theorem zwA:Rds Tryz.prog 29 (fun ds=>∃x:(List zE),(okS Y8) x∧ds=ze9 x):=Rds.slice (f:=zo) (ok:=Y8) (sz:=10) (by kernel_rfl) (by kernel_rfl) (by decide) (fun _=>rfl) zmL
theorem zvW:Rds Tryz.prog 31 (fun ds=>∃x:zu,Y2 x∧ds=qb x):=by
 refine(Rds.struct (Rs:=[(1,fun ds=>∃x:Int,(inK .i64) x∧ds=jN x),(1,fun ds=>∃x:Int,(inK .i64) x∧ds=jN x),(1,fun ds=>∃x:Int,(inK .i64) x∧ds=jN x),(1,fun ds=>∃x:Int,(inK .i64) x∧ds=jN x),(1,fun ds=>∃x:Int,(inK .i64) x∧ds=jN x),(1,fun ds=>∃x:Int,(inK .i64) x∧ds=jN x),(4,fun ds=>∃x:z4,kV x∧ds=j7 x),(1,fun ds=>∃x:(List zE),(okS Y8) x∧ds=ze9 x),(1,fun ds=>∃x:Int,(inK .i64) x∧ds=jN x),(1,fun ds=>∃x:Int,(inK .i64) x∧ds=jN x)]) Tryz.underlying31 ⟨rfl,(by kernel_rfl:_=1),xi,⟨rfl,(by kernel_rfl:_=1),xi,⟨rfl,(by kernel_rfl:_=1),xi,⟨rfl,(by kernel_rfl:_=1),xi,⟨rfl,(by kernel_rfl:_=1),xi,⟨rfl,(by kernel_rfl:_=1),xi,⟨rfl,(by kernel_rfl:_=4),zjs,⟨rfl,(by kernel_rfl:_=1),zwA,⟨rfl,(by kernel_rfl:_=1),xi,⟨rfl,(by kernel_rfl:_=1),xi,trivial⟩⟩⟩⟩⟩⟩⟩⟩⟩⟩ (by kernel_rfl)).mono ?_;rintro ds ⟨_,_,rfl,⟨x0,h0,rfl⟩,⟨_,_,rfl,⟨x1,h1,rfl⟩,⟨_,_,rfl,⟨x2,h2,rfl⟩,⟨_,_,rfl,⟨x3,h3,rfl⟩,⟨_,_,rfl,⟨x4,h4,rfl⟩,⟨_,_,rfl,⟨x5,h5,rfl⟩,⟨_,_,rfl,⟨x6,h6,rfl⟩,⟨_,_,rfl,⟨x7,h7,rfl⟩,⟨_,_,rfl,⟨x8,h8,rfl⟩,⟨_,_,rfl,⟨x9,h9,rfl⟩,rfl⟩⟩⟩⟩⟩⟩⟩⟩⟩⟩;exact⟨⟨x0,x1,x2,x3,x4,x5,x6,x7,x8,x9⟩,⟨h0,h1,h2,h3,h4,h5,h6,h7,h8,h9⟩,rfl⟩
theorem XN(os:Os)(started:os.Started)(H:Type)(enc:TypeId×Value→H):
  ReturnsInHanded {} Tryz.checked os 3 .any (Rows.fnExactResendSpec.pre6 enc Tryz.prog Tryz.f3 Rows.fnExactResendRow.domain false) (Rows.fnExactResendSpec.post enc Tryz.prog Tryz.f3 false true false false):=by
 refine returnsInHanded_of_change (C:=Tryz.checked) zjm started (by kernel_rfl) Tryz.func3
  (ChangeSpec.witness6 (enc:=enc) (C:=Tryz.checked) false ⟨#[],#[.agg #[.int .i64 0,.int .i64 0,.int .i64 0,.int .i64 0,.int .i64 0,.int .i64 0,.int .i64 0,.slice none 0 0,.slice none 0 0,.slice none 0 0,.slice none 0 0,.int .i64 0,.int .i64 0]],[]⟩ 8 (by kernel_rfl) (by kernel_rfl) (by kernel_rfl) (by kernel_rfl)) ?_
 intro W base args ds gs before hval hW hcnd _;have hR:zgx Tryz.prog Tryz.f3.params.toList [fun x=>∃ds,(∃a:zu,Y2 a∧ds=qb a)∧x= .agg ds]:=by rw[Tryz.params3];exact⟨(zzP Tryz.underlying31 zvW),trivial⟩
 refine zhm (P:=Tryz.prog) (tb:=4) zh5 O (fun ds h=> ?_) (by kernel_rfl) (by kernel_rfl) (by kernel_rfl) hR (fun xs h=> ?_) hval hW
 ·rw[Tryz.params3] at h;exact match ds,h with
   |[_],_=>rfl
 ·obtain⟨_,_,rfl,⟨_,⟨a0,h0,rfl⟩,rfl⟩,g0⟩:=DsR.cons h;obtain rfl:=DsR.nil g0;exact XA (zbq a0 h0)
theorem zaf:Tryz.pinned.checked.prog.stopsHeard=true:=by kernel_rfl
theorem K0:Tryz.pinned.checked.prog.mayEnter=true:=by kernel_rfl
theorem zac:(Rows.fnExactResendRow.lifted == Tryz.pinned.checked.prog.liftsFinal)=true:=by kernel_rfl
theorem zah:(Tryz.pinned.checked.prog.make == some Rows.fnExactResendRow.make)=true:=by kernel_rfl
theorem K7:(Rows.fnExactResendRow.named == Tryz.pinned.checked.prog.varsNamed 3)=true:=by kernel_rfl
theorem zaa:(Rows.fnExactResendRow.recurses == Tryz.pinned.checked.prog.recurses 3)=true:=by kernel_rfl
theorem KY:(Rows.fnExactResendRow.unfollowed == Tryz.pinned.checked.prog.unfollowed 3)=true:=by kernel_rfl
theorem zae:(Rows.fnExactResendRow.inPlace == Tryz.pinned.checked.prog.inPlace 3)=true:=by kernel_rfl
theorem zN{a b:Bool}(h:a=true)(h':b=true):(a&&b)=true:=by rw[h,h'];rfl
theorem Kp:joinedFacts Tryz.pinned.checked.prog 3 Tryz.f3 Rows.fnExactResendSpec Rows.fnExactResendRow=true:=
 (zN (zN (zN (zN (zN (zN (zN (zN (zN (zN (zN (zN (zN (zN (zN (zN (zN (zN (zN (zN (zN (zN (zN (zN (zN (zN (zN (zN (zN (zN (zN (by kernel_rfl) (by kernel_rfl)) (by kernel_rfl)) (by kernel_rfl)) (by kernel_rfl)) (by kernel_rfl)) (by kernel_rfl)) (by kernel_rfl)) (by kernel_rfl)) zae) KY) zaa) K7) (by kernel_rfl)) (by kernel_rfl)) (by kernel_rfl)) (by kernel_rfl)) (by kernel_rfl)) (by kernel_rfl)) (by kernel_rfl)) (by kernel_rfl)) (by kernel_rfl)) (by kernel_rfl)) (by kernel_rfl)) zaf) K0) zac) zah) (by kernel_rfl)) (by kernel_rfl)) (by kernel_rfl)) (by kernel_rfl))
theorem fnExactResend_holds:Rows.FnExactResendSaid:=
 OpenClaim.holds_of_wide 3 Tryz.f3 O O O O O O O ⟨rfl,rfl,rfl,rfl,rfl⟩ O O O O O (by kernel_rfl) Tryz.func3 Kp
  (of_decide_eq_true (by kernel_rfl)) (by unfold Func.isWrapper;first|(rw[if_pos (by decide+kernel)];kernel_rfl)|(rw[if_neg (by decide+kernel)];exact⟨rfl,rfl⟩))
  (fun os started H enc _=>XN os started H enc)
end Go.Proofs.YtpabbbmfcgnhdaaGreat
