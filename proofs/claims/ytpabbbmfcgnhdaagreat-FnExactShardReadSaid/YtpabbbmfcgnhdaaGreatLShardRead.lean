/- The given statement: the law returns true for every input, and its arguments read as they did. Conditions: none. -/
import Derived.Test.YtpabbbmfcgnhdaaGreatDShardReada
import Derived.Test.YtpabbbmfcgnhdaaGreatDShardReadb
import Derived.Test.YtpabbbmfcgnhdaaGreatDShardReadc
import Derived.Test.YtpabbbmfcgnhdaaGreatDShardReadd
import Derived.Test.YtpabbbmfcgnhdaaGreatDShardReade
import Derived.Test.YtpabbbmfcgnhdaaGreatPShardRead
import Derived.Test.YtpabbbmfcgnhdaaGreatBr
import Derived.Test.YtpabbbmfcgnhdaaGreatRows
import Derived.ProofKit
import Derived.KernelRfl
set_option linter.unusedVariables false
set_option maxRecDepth 100000
namespace Go.Proofs.YtpabbbmfcgnhdaaGreat
open Go.AW Go.ChangeShapes Go.WideShapes Go.ChangeAt Go.RowKit
theorem zoA:ownKnob Tryz.prog.godebug=none:=by kernel_rfl
theorem znJ:laidOutB Tryz.prog=true:=by kernel_rfl
theorem zd5:Rds Tryz.prog 3 (fun ds=>∃x:Int,(inK .i64) x∧ds=zl x):=Rds.int (by kernel_rfl)
theorem zpV:Rds Tryz.prog 54 (fun ds=>∃x:(List Int),(okS<|inK .i64) x∧ds=yj x):=Rds.slice (f:=zl) (ok:=(inK .i64)) (sz:=1) (by kernel_rfl) (by kernel_rfl) (by decide) (fun _=>rfl) zd5
theorem zvL:Rds Tryz.prog 348 (fun ds=>∃x:zr,kt x∧ds=zi x):=by
 refine(Rds.struct (Rs:=[(1,fun ds=>∃x:Int,(inK .i64) x∧ds=zl x),(1,fun ds=>∃x:Int,(inK .i64) x∧ds=zl x)]) Tryz.underlying348 ⟨rfl,(by kernel_rfl:_=1),zd5,⟨rfl,(by kernel_rfl:_=1),zd5,trivial⟩⟩ (by kernel_rfl)).mono ?_;rintro ds ⟨_,_,rfl,⟨x0,h0,rfl⟩,⟨_,_,rfl,⟨x1,h1,rfl⟩,rfl⟩⟩;exact⟨⟨x0,x1⟩,⟨h0,h1⟩,rfl⟩
theorem zxf:Rds Tryz.prog 235 (fun ds=>∃x:(List zr),(okS kt) x∧ds=zel x):=Rds.slice (f:=zi) (ok:=kt) (sz:=2) (by kernel_rfl) (by kernel_rfl) (by decide) (fun _=>rfl) zvL
theorem zxQ:Rds Tryz.prog 237 (fun ds=>∃x:zP,KM x∧ds=zx x):=by
 refine(Rds.struct (Rs:=[(1,fun ds=>∃x:Int,(inK .i64) x∧ds=zl x),(1,fun ds=>∃x:(List zr),(okS kt) x∧ds=zel x)]) Tryz.underlying237 ⟨rfl,(by kernel_rfl:_=1),zd5,⟨rfl,(by kernel_rfl:_=1),zxf,trivial⟩⟩ (by kernel_rfl)).mono ?_;rintro ds ⟨_,_,rfl,⟨x0,h0,rfl⟩,⟨_,_,rfl,⟨x1,h1,rfl⟩,rfl⟩⟩;exact⟨⟨x0,x1⟩,⟨h0,h1⟩,rfl⟩
theorem zIq:Rds Tryz.prog 53 (fun ds=>∃x:(List zP),(okS KM) x∧ds=zj7 x):=Rds.slice (f:=zx) (ok:=KM) (sz:=2) (by kernel_rfl) (by kernel_rfl) (by decide) (fun _=>rfl) zxQ
theorem zs3:Rds Tryz.prog 243 (fun ds=>∃x:zu,zc7 x∧ds=zk x):=by
 refine(Rds.struct (Rs:=[(1,fun ds=>∃x:Int,(inK .i64) x∧ds=zl x),(1,fun ds=>∃x:Int,(inK .i64) x∧ds=zl x),(1,fun ds=>∃x:Int,(inK .i64) x∧ds=zl x),(1,fun ds=>∃x:Int,(inK .i64) x∧ds=zl x)]) Tryz.underlying243 ⟨rfl,(by kernel_rfl:_=1),zd5,⟨rfl,(by kernel_rfl:_=1),zd5,⟨rfl,(by kernel_rfl:_=1),zd5,⟨rfl,(by kernel_rfl:_=1),zd5,trivial⟩⟩⟩⟩ (by kernel_rfl)).mono ?_;rintro ds ⟨_,_,rfl,⟨x0,h0,rfl⟩,⟨_,_,rfl,⟨x1,h1,rfl⟩,⟨_,_,rfl,⟨x2,h2,rfl⟩,⟨_,_,rfl,⟨x3,h3,rfl⟩,rfl⟩⟩⟩⟩;exact⟨⟨x0,x1,x2,x3⟩,⟨h0,h1,h2,h3⟩,rfl⟩
theorem zFj:Rds Tryz.prog 52 (fun ds=>∃x:(List zu),(okS zc7) x∧ds=zke x):=Rds.slice (f:=zk) (ok:=zc7) (sz:=4) (by kernel_rfl) (by kernel_rfl) (by decide) (fun _=>rfl) zs3
theorem zzy:Rds Tryz.prog 241 (fun ds=>∃x:zr,kt x∧ds=zi x):=by
 refine(Rds.struct (Rs:=[(1,fun ds=>∃x:Int,(inK .i64) x∧ds=zl x),(1,fun ds=>∃x:Int,(inK .i64) x∧ds=zl x)]) Tryz.underlying241 ⟨rfl,(by kernel_rfl:_=1),zd5,⟨rfl,(by kernel_rfl:_=1),zd5,trivial⟩⟩ (by kernel_rfl)).mono ?_;rintro ds ⟨_,_,rfl,⟨x0,h0,rfl⟩,⟨_,_,rfl,⟨x1,h1,rfl⟩,rfl⟩⟩;exact⟨⟨x0,x1⟩,⟨h0,h1⟩,rfl⟩
theorem zHO:Rds Tryz.prog 22 (fun ds=>∃x:(List zr),(okS kt) x∧ds=zel x):=Rds.slice (f:=zi) (ok:=kt) (sz:=2) (by kernel_rfl) (by kernel_rfl) (by decide) (fun _=>rfl) zzy
theorem zpZ:Rds Tryz.prog 58 (fun ds=>∃x:zm,xz x∧ds=zd x):=by
 refine(Rds.struct (Rs:=[(1,fun ds=>∃x:Int,(inK .i64) x∧ds=zl x),(1,fun ds=>∃x:Int,(inK .i64) x∧ds=zl x)]) Tryz.underlying58 ⟨rfl,(by kernel_rfl:_=1),zd5,⟨rfl,(by kernel_rfl:_=1),zd5,trivial⟩⟩ (by kernel_rfl)).mono ?_;rintro ds ⟨_,_,rfl,⟨x0,h0,rfl⟩,⟨_,_,rfl,⟨x1,h1,rfl⟩,rfl⟩⟩;exact⟨⟨x0,x1⟩,⟨h0,h1⟩,rfl⟩
theorem zpY:Rds Tryz.prog 51 (fun ds=>∃x:(List zm),(okS xz) x∧ds=zfA x):=Rds.slice (f:=zd) (ok:=xz) (sz:=2) (by kernel_rfl) (by kernel_rfl) (by decide) (fun _=>rfl) zpZ
theorem zIU:Rds Tryz.prog 56 (fun ds=>∃x:zt,zbs x∧ds=zT x):=by
 refine(Rds.struct (Rs:=[(1,fun ds=>∃x:Int,(inK .i64) x∧ds=zl x),(1,fun ds=>∃x:(List zm),(okS xz) x∧ds=zfA x),(1,fun ds=>∃x:(List zm),(okS xz) x∧ds=zfA x),(1,fun ds=>∃x:(List zr),(okS kt) x∧ds=zel x),(1,fun ds=>∃x:(List zu),(okS zc7) x∧ds=zke x),(1,fun ds=>∃x:(List zP),(okS KM) x∧ds=zj7 x),(1,fun ds=>∃x:(List Int),(okS<|inK .i64) x∧ds=yj x),(1,fun ds=>∃x:(List Int),(okS<|inK .i64) x∧ds=yj x),(1,fun ds=>∃x:Int,(inK .i64) x∧ds=zl x)]) Tryz.underlying56 ⟨rfl,(by kernel_rfl:_=1),zd5,⟨rfl,(by kernel_rfl:_=1),zpY,⟨rfl,(by kernel_rfl:_=1),zpY,⟨rfl,(by kernel_rfl:_=1),zHO,⟨rfl,(by kernel_rfl:_=1),zFj,⟨rfl,(by kernel_rfl:_=1),zIq,⟨rfl,(by kernel_rfl:_=1),zpV,⟨rfl,(by kernel_rfl:_=1),zpV,⟨rfl,(by kernel_rfl:_=1),zd5,trivial⟩⟩⟩⟩⟩⟩⟩⟩⟩ (by kernel_rfl)).mono ?_;rintro ds ⟨_,_,rfl,⟨x0,h0,rfl⟩,⟨_,_,rfl,⟨x1,h1,rfl⟩,⟨_,_,rfl,⟨x2,h2,rfl⟩,⟨_,_,rfl,⟨x3,h3,rfl⟩,⟨_,_,rfl,⟨x4,h4,rfl⟩,⟨_,_,rfl,⟨x5,h5,rfl⟩,⟨_,_,rfl,⟨x6,h6,rfl⟩,⟨_,_,rfl,⟨x7,h7,rfl⟩,⟨_,_,rfl,⟨x8,h8,rfl⟩,rfl⟩⟩⟩⟩⟩⟩⟩⟩⟩;exact⟨⟨x0,x1,x2,x3,x4,x5,x6,x7,x8⟩,⟨h0,h1,h2,h3,h4,h5,h6,h7,h8⟩,rfl⟩
theorem zbG(os:Os)(started:os.Started)(H:Type)(enc:TypeId×Value→H):
  ReturnsInHanded {} Tryz.checked os 7 .any (Rows.fnExactShardReadSpec.pre6 enc Tryz.prog Tryz.f7 Rows.fnExactShardReadRow.domain false) (Rows.fnExactShardReadSpec.post enc Tryz.prog Tryz.f7 false true false false):=by
 refine returnsInHanded_of_change (C:=Tryz.checked) zoA started (by kernel_rfl) Tryz.func7
  (ChangeSpec.witness6 (enc:=enc) (C:=Tryz.checked) false ⟨#[],#[.agg #[.int .i64 0,.slice none 0 0,.slice none 0 0,.slice none 0 0,.slice none 0 0,.slice none 0 0,.slice none 0 0,.slice none 0 0,.int .i64 0],.int .i64 0,.agg #[.int .i64 0,.int .i64 0]],[]⟩ 8 (by kernel_rfl) (by kernel_rfl) (by kernel_rfl) (by kernel_rfl)) ?_
 intro W base args ds gs before hval hW hcnd _;have hR:zly Tryz.prog Tryz.f7.params.toList [fun x=>∃ds,(∃a:zt,zbs a∧ds=zT a)∧x= .agg ds,fun x=>∃a:Int,(inK .i64) a∧x=(.int .i64 a),fun x=>∃ds,(∃a:zm,xz a∧ds=zd a)∧x= .agg ds]:=by rw[Tryz.params7];exact⟨(zD0 Tryz.underlying56 zIU),⟨(zKU (R:=fun x=>∃a:Int,(inK .i64) a∧x=(.int .i64 a)) (by kernel_rfl) (zd5.mono fun ds ⟨a,h,e⟩=>⟨_,⟨a,h,rfl⟩,rfl,e⟩)),⟨(zD0 Tryz.underlying58 zpZ),trivial⟩⟩⟩
 refine zmn (P:=Tryz.prog) (tb:=4) znJ O (fun ds h=> ?_) (by kernel_rfl) (by kernel_rfl) (by kernel_rfl) hR (fun xs h=> ?_) hval hW
 ·rw[Tryz.params7] at h;exact match ds,h with
   |[_,_,_],_=>rfl
 ·obtain⟨_,_,rfl,⟨_,⟨a0,h0,rfl⟩,rfl⟩,g0⟩:=DsR.cons h;obtain⟨_,_,rfl,⟨a1,h1,rfl⟩,g1⟩:=DsR.cons g0;obtain⟨_,_,rfl,⟨_,⟨a2,h2,rfl⟩,rfl⟩,g2⟩:=DsR.cons g1;obtain rfl:=DsR.nil g2;exact zbo (zd0 a0 a1 a2 h0 h1 h2)
theorem zcW:Tryz.pinned.checked.prog.stopsHeard=true:=by kernel_rfl
theorem zcH:Tryz.pinned.checked.prog.mayEnter=true:=by kernel_rfl
theorem zcJ:(Rows.fnExactShardReadRow.lifted == Tryz.pinned.checked.prog.liftsFinal)=true:=by kernel_rfl
theorem zda:(Tryz.pinned.checked.prog.make == some Rows.fnExactShardReadRow.make)=true:=by kernel_rfl
theorem zcP:(Rows.fnExactShardReadRow.named == Tryz.pinned.checked.prog.varsNamed 7)=true:=by kernel_rfl
theorem zcN:(Rows.fnExactShardReadRow.recurses == Tryz.pinned.checked.prog.recurses 7)=true:=by kernel_rfl
theorem zcR:(Rows.fnExactShardReadRow.unfollowed == Tryz.pinned.checked.prog.unfollowed 7)=true:=by kernel_rfl
theorem zdl:(Rows.fnExactShardReadRow.inPlace == Tryz.pinned.checked.prog.inPlace 7)=true:=by kernel_rfl
theorem zM{a b:Bool}(h:a=true)(h':b=true):(a&&b)=true:=by rw[h,h'];rfl
theorem zb0:joinedFacts Tryz.pinned.checked.prog 7 Tryz.f7 Rows.fnExactShardReadSpec Rows.fnExactShardReadRow=true:=
 (zM (zM (zM (zM (zM (zM (zM (zM (zM (zM (zM (zM (zM (zM (zM (zM (zM (zM (zM (zM (zM (zM (zM (zM (zM (zM (zM (zM (zM (zM (zM (by kernel_rfl) (by kernel_rfl)) (by kernel_rfl)) (by kernel_rfl)) (by kernel_rfl)) (by kernel_rfl)) (by kernel_rfl)) (by kernel_rfl)) (by kernel_rfl)) zdl) zcR) zcN) zcP) (by kernel_rfl)) (by kernel_rfl)) (by kernel_rfl)) (by kernel_rfl)) (by kernel_rfl)) (by kernel_rfl)) (by kernel_rfl)) (by kernel_rfl)) (by kernel_rfl)) (by kernel_rfl)) (by kernel_rfl)) zcW) zcH) zcJ) zda) (by kernel_rfl)) (by kernel_rfl)) (by kernel_rfl)) (by kernel_rfl))
theorem fnExactShardRead_holds:Rows.FnExactShardReadSaid:=
 OpenClaim.holds_of_wide 7 Tryz.f7 O O O O O O O ⟨rfl,rfl,rfl,rfl,rfl⟩ O O O O O (by kernel_rfl) Tryz.func7 zb0
  (of_decide_eq_true (by kernel_rfl)) (by unfold Func.isWrapper;first|(rw[if_pos (by decide+kernel)];kernel_rfl)|(rw[if_neg (by decide+kernel)];exact⟨rfl,rfl⟩))
  (fun os started H enc _=>zbG os started H enc)
end Go.Proofs.YtpabbbmfcgnhdaaGreat
