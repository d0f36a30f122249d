/- The given statement: the law returns true for every input, and its arguments read as they did. Conditions: none. -/
import Derived.Test.YtpabbbmfcgnhdaaGreatDShardDecidea
import Derived.Test.YtpabbbmfcgnhdaaGreatDShardDecideb
import Derived.Test.YtpabbbmfcgnhdaaGreatDShardDecidec
import Derived.Test.YtpabbbmfcgnhdaaGreatDShardDecided
import Derived.Test.YtpabbbmfcgnhdaaGreatDShardDecidee
import Derived.Test.YtpabbbmfcgnhdaaGreatPShardDecide
import Derived.Test.YtpabbbmfcgnhdaaGreatBr
import Derived.Test.YtpabbbmfcgnhdaaGreatRows
import Derived.ProofKit
import Derived.KernelRfl
set_option linter.unusedVariables false
set_option maxRecDepth 100000
namespace Go.Proofs.YtpabbbmfcgnhdaaGreat
open Go.AW Go.ChangeShapes Go.WideShapes Go.ChangeAt Go.RowKit
theorem znt:ownKnob Tryz.prog.godebug=none:=by kernel_rfl
theorem zl2:laidOutB Tryz.prog=true:=by kernel_rfl
theorem zcT:Rds Tryz.prog 3 (fun ds=>∃x:Int,(inK .i64) x∧ds=zm x):=Rds.int (by kernel_rfl)
theorem zoO:Rds Tryz.prog 54 (fun ds=>∃x:(List Int),(okS<|inK .i64) x∧ds=Z8 x):=Rds.slice (f:=zm) (ok:=(inK .i64)) (sz:=1) (by kernel_rfl) (by kernel_rfl) (by decide) (fun _=>rfl) zcT
theorem zA3:Rds Tryz.prog 348 (fun ds=>∃x:zj,xk x∧ds=zd x):=by
 refine(Rds.struct (Rs:=[(1,fun ds=>∃x:Int,(inK .i64) x∧ds=zm x),(1,fun ds=>∃x:Int,(inK .i64) x∧ds=zm x)]) Tryz.underlying348 ⟨rfl,(by kernel_rfl:_=1),zcT,⟨rfl,(by kernel_rfl:_=1),zcT,trivial⟩⟩ (by kernel_rfl)).mono ?_
 rintro ds ⟨_,_,rfl,⟨x0,h0,rfl⟩,⟨_,_,rfl,⟨x1,h1,rfl⟩,rfl⟩⟩
 exact⟨⟨x0,x1⟩,⟨h0,h1⟩,rfl⟩
theorem zx8:Rds Tryz.prog 235 (fun ds=>∃x:(List zj),(okS xk) x∧ds=zdt x):=Rds.slice (f:=zd) (ok:=xk) (sz:=2) (by kernel_rfl) (by kernel_rfl) (by decide) (fun _=>rfl) zA3
theorem zBb:Rds Tryz.prog 237 (fun ds=>∃x:zL,XS x∧ds=zx x):=by
 refine(Rds.struct (Rs:=[(1,fun ds=>∃x:Int,(inK .i64) x∧ds=zm x),(1,fun ds=>∃x:(List zj),(okS xk) x∧ds=zdt x)]) Tryz.underlying237 ⟨rfl,(by kernel_rfl:_=1),zcT,⟨rfl,(by kernel_rfl:_=1),zx8,trivial⟩⟩ (by kernel_rfl)).mono ?_
 rintro ds ⟨_,_,rfl,⟨x0,h0,rfl⟩,⟨_,_,rfl,⟨x1,h1,rfl⟩,rfl⟩⟩
 exact⟨⟨x0,x1⟩,⟨h0,h1⟩,rfl⟩
theorem zD5:Rds Tryz.prog 53 (fun ds=>∃x:(List zL),(okS XS) x∧ds=zi0 x):=Rds.slice (f:=zx) (ok:=XS) (sz:=2) (by kernel_rfl) (by kernel_rfl) (by decide) (fun _=>rfl) zBb
theorem zsW:Rds Tryz.prog 243 (fun ds=>∃x:zC,zbJ x∧ds=zo x):=by
 refine(Rds.struct (Rs:=[(1,fun ds=>∃x:Int,(inK .i64) x∧ds=zm x),(1,fun ds=>∃x:Int,(inK .i64) x∧ds=zm x),(1,fun ds=>∃x:Int,(inK .i64) x∧ds=zm x),(1,fun ds=>∃x:Int,(inK .i64) x∧ds=zm x)]) Tryz.underlying243 ⟨rfl,(by kernel_rfl:_=1),zcT,⟨rfl,(by kernel_rfl:_=1),zcT,⟨rfl,(by kernel_rfl:_=1),zcT,⟨rfl,(by kernel_rfl:_=1),zcT,trivial⟩⟩⟩⟩ (by kernel_rfl)).mono ?_
 rintro ds ⟨_,_,rfl,⟨x0,h0,rfl⟩,⟨_,_,rfl,⟨x1,h1,rfl⟩,⟨_,_,rfl,⟨x2,h2,rfl⟩,⟨_,_,rfl,⟨x3,h3,rfl⟩,rfl⟩⟩⟩⟩
 exact⟨⟨x0,x1,x2,x3⟩,⟨h0,h1,h2,h3⟩,rfl⟩
theorem zBN:Rds Tryz.prog 52 (fun ds=>∃x:(List zC),(okS zbJ) x∧ds=zh4 x):=Rds.slice (f:=zo) (ok:=zbJ) (sz:=4) (by kernel_rfl) (by kernel_rfl) (by decide) (fun _=>rfl) zsW
theorem ztr:Rds Tryz.prog 241 (fun ds=>∃x:zj,xk x∧ds=zd x):=by
 refine(Rds.struct (Rs:=[(1,fun ds=>∃x:Int,(inK .i64) x∧ds=zm x),(1,fun ds=>∃x:Int,(inK .i64) x∧ds=zm x)]) Tryz.underlying241 ⟨rfl,(by kernel_rfl:_=1),zcT,⟨rfl,(by kernel_rfl:_=1),zcT,trivial⟩⟩ (by kernel_rfl)).mono ?_
 rintro ds ⟨_,_,rfl,⟨x0,h0,rfl⟩,⟨_,_,rfl,⟨x1,h1,rfl⟩,rfl⟩⟩
 exact⟨⟨x0,x1⟩,⟨h0,h1⟩,rfl⟩
theorem zHq:Rds Tryz.prog 22 (fun ds=>∃x:(List zj),(okS xk) x∧ds=zdt x):=Rds.slice (f:=zd) (ok:=xk) (sz:=2) (by kernel_rfl) (by kernel_rfl) (by decide) (fun _=>rfl) ztr
theorem zCp:Rds Tryz.prog 58 (fun ds=>∃x:zw,Xr x∧ds=zg x):=by
 refine(Rds.struct (Rs:=[(1,fun ds=>∃x:Int,(inK .i64) x∧ds=zm x),(1,fun ds=>∃x:Int,(inK .i64) x∧ds=zm x)]) Tryz.underlying58 ⟨rfl,(by kernel_rfl:_=1),zcT,⟨rfl,(by kernel_rfl:_=1),zcT,trivial⟩⟩ (by kernel_rfl)).mono ?_
 rintro ds ⟨_,_,rfl,⟨x0,h0,rfl⟩,⟨_,_,rfl,⟨x1,h1,rfl⟩,rfl⟩⟩
 exact⟨⟨x0,x1⟩,⟨h0,h1⟩,rfl⟩
theorem zoU:Rds Tryz.prog 51 (fun ds=>∃x:(List zw),(okS Xr) x∧ds=zdL x):=Rds.slice (f:=zg) (ok:=Xr) (sz:=2) (by kernel_rfl) (by kernel_rfl) (by decide) (fun _=>rfl) zCp
theorem zDT:Rds Tryz.prog 56 (fun ds=>∃x:zp,zay x∧ds=zT x):=by
 refine(Rds.struct (Rs:=[(1,fun ds=>∃x:Int,(inK .i64) x∧ds=zm x),(1,fun ds=>∃x:(List zw),(okS Xr) x∧ds=zdL x),(1,fun ds=>∃x:(List zw),(okS Xr) x∧ds=zdL x),(1,fun ds=>∃x:(List zj),(okS xk) x∧ds=zdt x),(1,fun ds=>∃x:(List zC),(okS zbJ) x∧ds=zh4 x),(1,fun ds=>∃x:(List zL),(okS XS) x∧ds=zi0 x),(1,fun ds=>∃x:(List Int),(okS<|inK .i64) x∧ds=Z8 x),(1,fun ds=>∃x:(List Int),(okS<|inK .i64) x∧ds=Z8 x),(1,fun ds=>∃x:Int,(inK .i64) x∧ds=zm x)]) Tryz.underlying56 ⟨rfl,(by kernel_rfl:_=1),zcT,⟨rfl,(by kernel_rfl:_=1),zoU,⟨rfl,(by kernel_rfl:_=1),zoU,⟨rfl,(by kernel_rfl:_=1),zHq,⟨rfl,(by kernel_rfl:_=1),zBN,⟨rfl,(by kernel_rfl:_=1),zD5,⟨rfl,(by kernel_rfl:_=1),zoO,⟨rfl,(by kernel_rfl:_=1),zoO,⟨rfl,(by kernel_rfl:_=1),zcT,trivial⟩⟩⟩⟩⟩⟩⟩⟩⟩ (by kernel_rfl)).mono ?_
 rintro ds ⟨_,_,rfl,⟨x0,h0,rfl⟩,⟨_,_,rfl,⟨x1,h1,rfl⟩,⟨_,_,rfl,⟨x2,h2,rfl⟩,⟨_,_,rfl,⟨x3,h3,rfl⟩,⟨_,_,rfl,⟨x4,h4,rfl⟩,⟨_,_,rfl,⟨x5,h5,rfl⟩,⟨_,_,rfl,⟨x6,h6,rfl⟩,⟨_,_,rfl,⟨x7,h7,rfl⟩,⟨_,_,rfl,⟨x8,h8,rfl⟩,rfl⟩⟩⟩⟩⟩⟩⟩⟩⟩
 exact⟨⟨x0,x1,x2,x3,x4,x5,x6,x7,x8⟩,⟨h0,h1,h2,h3,h4,h5,h6,h7,h8⟩,rfl⟩
theorem zJT:Rds Tryz.prog 4 (fun ds=>∃x:Bool,(fun _:Bool=>True) x∧ds=ztK x):=Rds.bool (by kernel_rfl)
theorem K8(os:Os)(started:os.Started)(H:Type)(enc:TypeId×Value→H):
  ReturnsInHanded {} Tryz.checked os 6 .any (Rows.fnExactShardDecideSpec.pre6 enc Tryz.prog Tryz.f6 Rows.fnExactShardDecideRow.domain false) (Rows.fnExactShardDecideSpec.post enc Tryz.prog Tryz.f6 false true false false):=by
 refine returnsInHanded_of_change (C:=Tryz.checked) znt started (by kernel_rfl) Tryz.func6
  (ChangeSpec.witness6 (enc:=enc) (C:=Tryz.checked) false ⟨#[],#[.agg #[.int .i64 0,.slice none 0 0,.slice none 0 0,.slice none 0 0,.slice none 0 0,.slice none 0 0,.slice none 0 0,.slice none 0 0,.int .i64 0],.int .i64 0,.bool false],[]⟩ 8 (by kernel_rfl) (by kernel_rfl) (by kernel_rfl) (by kernel_rfl)) ?_
 intro W base args ds gs before hval hW hcnd _
 have hR:zks Tryz.prog Tryz.f6.params.toList [fun x=>∃ds,(∃a:zp,zay a∧ds=zT a)∧x= .agg ds,fun x=>∃a:Int,(inK .i64) a∧x=(.int .i64 a),fun x=>∃a:Bool,(fun _:Bool=>True) a∧x=(.bool a)]:=by rw[Tryz.params6];exact⟨(zIL Tryz.underlying56 zDT),⟨(zFR (R:=fun x=>∃a:Int,(inK .i64) a∧x=(.int .i64 a)) (by kernel_rfl) (zcT.mono fun ds ⟨a,h,e⟩=>⟨_,⟨a,h,rfl⟩,rfl,e⟩)),⟨(zFR (R:=fun x=>∃a:Bool,(fun _:Bool=>True) a∧x=(.bool a)) (by kernel_rfl) (zJT.mono fun ds ⟨a,h,e⟩=>⟨_,⟨a,h,rfl⟩,rfl,e⟩)),trivial⟩⟩⟩
 refine zkB (P:=Tryz.prog) (tb:=4) zl2 rfl (fun ds h=> ?_) (by kernel_rfl) (by kernel_rfl) (by kernel_rfl) hR (fun xs h=> ?_) hval hW
 ·rw[Tryz.params6] at h
  exact match ds,h with
   |[_,_,_],_=>rfl
 ·obtain⟨_,_,rfl,⟨_,⟨a0,h0,rfl⟩,rfl⟩,g0⟩:=DsR.cons h
  obtain⟨_,_,rfl,⟨a1,h1,rfl⟩,g1⟩:=DsR.cons g0
  obtain⟨_,_,rfl,⟨a2,h2,rfl⟩,g2⟩:=DsR.cons g1
  obtain rfl:=DsR.nil g2
  exact K7 (zb0 a0 a1 a2 h0 h1 h2)
theorem za3:Tryz.pinned.checked.prog.stopsHeard=true:=by kernel_rfl
theorem za1:Tryz.pinned.checked.prog.mayEnter=true:=by kernel_rfl
theorem za4:(Rows.fnExactShardDecideRow.lifted == Tryz.pinned.checked.prog.liftsFinal)=true:=by kernel_rfl
theorem za8:(Tryz.pinned.checked.prog.make == some Rows.fnExactShardDecideRow.make)=true:=by kernel_rfl
theorem zaX:(Rows.fnExactShardDecideRow.named == Tryz.pinned.checked.prog.varsNamed 6)=true:=by kernel_rfl
theorem zaZ:(Rows.fnExactShardDecideRow.recurses == Tryz.pinned.checked.prog.recurses 6)=true:=by kernel_rfl
theorem za9:(Rows.fnExactShardDecideRow.unfollowed == Tryz.pinned.checked.prog.unfollowed 6)=true:=by kernel_rfl
theorem zaT:(Rows.fnExactShardDecideRow.inPlace == Tryz.pinned.checked.prog.inPlace 6)=true:=by kernel_rfl
theorem zG{a b:Bool}(h:a=true)(h':b=true):(a&&b)=true:=by rw[h,h'];rfl
theorem zan:joinedFacts Tryz.pinned.checked.prog 6 Tryz.f6 Rows.fnExactShardDecideSpec Rows.fnExactShardDecideRow=true:=
 (zG (zG (zG (zG (zG (zG (zG (zG (zG (zG (zG (zG (zG (zG (zG (zG (zG (zG (zG (zG (zG (zG (zG (zG (zG (zG (zG (zG (zG (zG (zG (by kernel_rfl) (by kernel_rfl)) (by kernel_rfl)) (by kernel_rfl)) (by kernel_rfl)) (by kernel_rfl)) (by kernel_rfl)) (by kernel_rfl)) (by kernel_rfl)) zaT) za9) zaZ) zaX) (by kernel_rfl)) (by kernel_rfl)) (by kernel_rfl)) (by kernel_rfl)) (by kernel_rfl)) (by kernel_rfl)) (by kernel_rfl)) (by kernel_rfl)) (by kernel_rfl)) (by kernel_rfl)) (by kernel_rfl)) za3) za1) za4) za8) (by kernel_rfl)) (by kernel_rfl)) (by kernel_rfl)) (by kernel_rfl))
theorem fnExactShardDecide_holds:Rows.FnExactShardDecideSaid:=
 OpenClaim.holds_of_wide 6 Tryz.f6 rfl rfl rfl rfl rfl rfl rfl ⟨rfl,rfl,rfl,rfl,rfl⟩ rfl rfl rfl rfl rfl (by kernel_rfl) Tryz.func6 zan
  (of_decide_eq_true (by kernel_rfl)) (by unfold Func.isWrapper;first|(rw[if_pos (by decide+kernel)];kernel_rfl)|(rw[if_neg (by decide+kernel)];exact⟨rfl,rfl⟩))
  (fun os started H enc _=>K8 os started H enc)
end Go.Proofs.YtpabbbmfcgnhdaaGreat
