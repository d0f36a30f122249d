/- The given statement: the law returns true for every input, and its arguments read as they did. Conditions: none. -/
import Derived.Test.YtpabbbmfcgnhdaaGreatDShardDropa
import Derived.Test.YtpabbbmfcgnhdaaGreatDShardDropb
import Derived.Test.YtpabbbmfcgnhdaaGreatDShardDropc
import Derived.Test.YtpabbbmfcgnhdaaGreatDShardDropd
import Derived.Test.YtpabbbmfcgnhdaaGreatDShardDrope
import Derived.Test.YtpabbbmfcgnhdaaGreatPShardDrop
import Derived.Test.YtpabbbmfcgnhdaaGreatBr
import Derived.Test.YtpabbbmfcgnhdaaGreatRows
import Derived.ProofKit
import Derived.KernelRfl
set_option linter.unusedVariables false
set_option maxRecDepth 100000
namespace Go.Proofs.YtpabbbmfcgnhdaaGreat
open Go.AW Go.ChangeShapes Go.WideShapes Go.ChangeAt Go.RowKit
theorem zm1:ownKnob Tryz.prog.godebug=none:=by kernel_rfl
theorem zlP:laidOutB Tryz.prog=true:=by kernel_rfl
theorem zcQ:Rds Tryz.prog 3 (fun ds=>∃x:Int,(inK .i64) x∧ds=zt x):=Rds.int (by kernel_rfl)
theorem znG:Rds Tryz.prog 54 (fun ds=>∃x:(List Int),(okS (inK .i64)) x∧ds=Qd x):=Rds.slice (f:=zt) (ok:=(inK .i64)) (sz:=1) (by kernel_rfl) (by kernel_rfl) (by decide) (fun _=>rfl) zcQ
theorem zpD:Rds Tryz.prog 348 (fun ds=>∃x:zn,xE x∧ds=zj x):=by
 refine(Rds.struct (Rs:=[(1,fun ds=>∃x:Int,(inK .i64) x∧ds=zt x),(1,fun ds=>∃x:Int,(inK .i64) x∧ds=zt x)]) Tryz.underlying348 ⟨rfl,(by kernel_rfl:_=1),zcQ,⟨rfl,(by kernel_rfl:_=1),zcQ,trivial⟩⟩ (by kernel_rfl)).mono ?_
 rintro ds ⟨_,_,rfl,⟨x0,h0,rfl⟩,⟨_,_,rfl,⟨x1,h1,rfl⟩,rfl⟩⟩
 exact⟨⟨x0,x1⟩,⟨h0,h1⟩,rfl⟩
theorem zw5:Rds Tryz.prog 235 (fun ds=>∃x:(List zn),(okS xE) x∧ds=zds x):=Rds.slice (f:=zj) (ok:=xE) (sz:=2) (by kernel_rfl) (by kernel_rfl) (by decide) (fun _=>rfl) zpD
theorem zrd:Rds Tryz.prog 237 (fun ds=>∃x:zN,X5 x∧ds=zB x):=by
 refine(Rds.struct (Rs:=[(1,fun ds=>∃x:Int,(inK .i64) x∧ds=zt x),(1,fun ds=>∃x:(List zn),(okS xE) x∧ds=zds x)]) Tryz.underlying237 ⟨rfl,(by kernel_rfl:_=1),zcQ,⟨rfl,(by kernel_rfl:_=1),zw5,trivial⟩⟩ (by kernel_rfl)).mono ?_
 rintro ds ⟨_,_,rfl,⟨x0,h0,rfl⟩,⟨_,_,rfl,⟨x1,h1,rfl⟩,rfl⟩⟩
 exact⟨⟨x0,x1⟩,⟨h0,h1⟩,rfl⟩
theorem zzn:Rds Tryz.prog 53 (fun ds=>∃x:(List zN),(okS X5) x∧ds=zio x):=Rds.slice (f:=zB) (ok:=X5) (sz:=2) (by kernel_rfl) (by kernel_rfl) (by decide) (fun _=>rfl) zrd
theorem zsH:Rds Tryz.prog 243 (fun ds=>∃x:zL,zb1 x∧ds=zp x):=by
 refine(Rds.struct (Rs:=[(1,fun ds=>∃x:Int,(inK .i64) x∧ds=zt x),(1,fun ds=>∃x:Int,(inK .i64) x∧ds=zt x),(1,fun ds=>∃x:Int,(inK .i64) x∧ds=zt x),(1,fun ds=>∃x:Int,(inK .i64) x∧ds=zt x)]) Tryz.underlying243 ⟨rfl,(by kernel_rfl:_=1),zcQ,⟨rfl,(by kernel_rfl:_=1),zcQ,⟨rfl,(by kernel_rfl:_=1),zcQ,⟨rfl,(by kernel_rfl:_=1),zcQ,trivial⟩⟩⟩⟩ (by kernel_rfl)).mono ?_
 rintro ds ⟨_,_,rfl,⟨x0,h0,rfl⟩,⟨_,_,rfl,⟨x1,h1,rfl⟩,⟨_,_,rfl,⟨x2,h2,rfl⟩,⟨_,_,rfl,⟨x3,h3,rfl⟩,rfl⟩⟩⟩⟩
 exact⟨⟨x0,x1,x2,x3⟩,⟨h0,h1,h2,h3⟩,rfl⟩
theorem zAQ:Rds Tryz.prog 52 (fun ds=>∃x:(List zL),(okS zb1) x∧ds=zia x):=Rds.slice (f:=zp) (ok:=zb1) (sz:=4) (by kernel_rfl) (by kernel_rfl) (by decide) (fun _=>rfl) zsH
theorem zrC:Rds Tryz.prog 241 (fun ds=>∃x:zn,xE x∧ds=zj x):=by
 refine(Rds.struct (Rs:=[(1,fun ds=>∃x:Int,(inK .i64) x∧ds=zt x),(1,fun ds=>∃x:Int,(inK .i64) x∧ds=zt x)]) Tryz.underlying241 ⟨rfl,(by kernel_rfl:_=1),zcQ,⟨rfl,(by kernel_rfl:_=1),zcQ,trivial⟩⟩ (by kernel_rfl)).mono ?_
 rintro ds ⟨_,_,rfl,⟨x0,h0,rfl⟩,⟨_,_,rfl,⟨x1,h1,rfl⟩,rfl⟩⟩
 exact⟨⟨x0,x1⟩,⟨h0,h1⟩,rfl⟩
theorem zBs:Rds Tryz.prog 22 (fun ds=>∃x:(List zn),(okS xE) x∧ds=zds x):=Rds.slice (f:=zj) (ok:=xE) (sz:=2) (by kernel_rfl) (by kernel_rfl) (by decide) (fun _=>rfl) zrC
theorem znI:Rds Tryz.prog 58 (fun ds=>∃x:ze,YY x∧ds=zd x):=by
 refine(Rds.struct (Rs:=[(1,fun ds=>∃x:Int,(inK .i64) x∧ds=zt x),(1,fun ds=>∃x:Int,(inK .i64) x∧ds=zt x)]) Tryz.underlying58 ⟨rfl,(by kernel_rfl:_=1),zcQ,⟨rfl,(by kernel_rfl:_=1),zcQ,trivial⟩⟩ (by kernel_rfl)).mono ?_
 rintro ds ⟨_,_,rfl,⟨x0,h0,rfl⟩,⟨_,_,rfl,⟨x1,h1,rfl⟩,rfl⟩⟩
 exact⟨⟨x0,x1⟩,⟨h0,h1⟩,rfl⟩
theorem znB:Rds Tryz.prog 51 (fun ds=>∃x:(List ze),(okS YY) x∧ds=Qz x):=Rds.slice (f:=zd) (ok:=YY) (sz:=2) (by kernel_rfl) (by kernel_rfl) (by decide) (fun _=>rfl) znI
theorem zzP:Rds Tryz.prog 56 (fun ds=>∃x:zo,zau x∧ds=zR x):=by
 refine(Rds.struct (Rs:=[(1,fun ds=>∃x:Int,(inK .i64) x∧ds=zt x),(1,fun ds=>∃x:(List ze),(okS YY) x∧ds=Qz x),(1,fun ds=>∃x:(List ze),(okS YY) x∧ds=Qz x),(1,fun ds=>∃x:(List zn),(okS xE) x∧ds=zds x),(1,fun ds=>∃x:(List zL),(okS zb1) x∧ds=zia x),(1,fun ds=>∃x:(List zN),(okS X5) x∧ds=zio x),(1,fun ds=>∃x:(List Int),(okS (inK .i64)) x∧ds=Qd x),(1,fun ds=>∃x:(List Int),(okS (inK .i64)) x∧ds=Qd x),(1,fun ds=>∃x:Int,(inK .i64) x∧ds=zt x)]) Tryz.underlying56 ⟨rfl,(by kernel_rfl:_=1),zcQ,⟨rfl,(by kernel_rfl:_=1),znB,⟨rfl,(by kernel_rfl:_=1),znB,⟨rfl,(by kernel_rfl:_=1),zBs,⟨rfl,(by kernel_rfl:_=1),zAQ,⟨rfl,(by kernel_rfl:_=1),zzn,⟨rfl,(by kernel_rfl:_=1),znG,⟨rfl,(by kernel_rfl:_=1),znG,⟨rfl,(by kernel_rfl:_=1),zcQ,trivial⟩⟩⟩⟩⟩⟩⟩⟩⟩ (by kernel_rfl)).mono ?_
 rintro ds ⟨_,_,rfl,⟨x0,h0,rfl⟩,⟨_,_,rfl,⟨x1,h1,rfl⟩,⟨_,_,rfl,⟨x2,h2,rfl⟩,⟨_,_,rfl,⟨x3,h3,rfl⟩,⟨_,_,rfl,⟨x4,h4,rfl⟩,⟨_,_,rfl,⟨x5,h5,rfl⟩,⟨_,_,rfl,⟨x6,h6,rfl⟩,⟨_,_,rfl,⟨x7,h7,rfl⟩,⟨_,_,rfl,⟨x8,h8,rfl⟩,rfl⟩⟩⟩⟩⟩⟩⟩⟩⟩
 exact⟨⟨x0,x1,x2,x3,x4,x5,x6,x7,x8⟩,⟨h0,h1,h2,h3,h4,h5,h6,h7,h8⟩,rfl⟩
theorem zaL(os:Os)(started:os.Started)(H:Type)(enc:TypeId×Value→H):
  ReturnsInHanded {} Tryz.checked os 5 .any (Rows.fnExactShardDropSpec.pre6 enc Tryz.prog Tryz.f5 Rows.fnExactShardDropRow.domain false) (Rows.fnExactShardDropSpec.post enc Tryz.prog Tryz.f5 false true false false):=by
 refine returnsInHanded_of_change (C:=Tryz.checked) zm1 started (by kernel_rfl) Tryz.func5
  (ChangeSpec.witness6 (enc:=enc) (C:=Tryz.checked) false ⟨#[],#[.agg #[.int .i64 0,.slice none 0 0,.slice none 0 0,.slice none 0 0,.slice none 0 0,.slice none 0 0,.slice none 0 0,.slice none 0 0,.int .i64 0],.int .i64 0,.agg #[.int .i64 0,.int .i64 0]],[]⟩ 8 (by kernel_rfl) (by kernel_rfl) (by kernel_rfl) (by kernel_rfl)) ?_
 intro W base args ds gs before hval hW hcnd _
 have hR:zjG Tryz.prog Tryz.f5.params.toList [fun x=>∃ds,(∃a:zo,zau a∧ds=zR a)∧x= .agg ds,fun x=>∃a:Int,(inK .i64) a∧x=(.int .i64 a),fun x=>∃ds,(∃a:ze,YY a∧ds=zd a)∧x= .agg ds]:=by rw[Tryz.params5];exact⟨(zAZ Tryz.underlying56 zzP),⟨(zGy (R:=fun x=>∃a:Int,(inK .i64) a∧x=(.int .i64 a)) (by kernel_rfl) (zcQ.mono fun ds ⟨a,h,e⟩=>⟨_,⟨a,h,rfl⟩,rfl,e⟩)),⟨(zAZ Tryz.underlying58 znI),trivial⟩⟩⟩
 refine zka (P:=Tryz.prog) (tb:=4) zlP rfl (fun ds h=> ?_) (by kernel_rfl) (by kernel_rfl) (by kernel_rfl) hR (fun xs h=> ?_) hval hW
 ·rw[Tryz.params5] at h
  exact match ds,h with
   |[_,_,_],_=>rfl
 ·obtain⟨_,_,rfl,⟨_,⟨a0,h0,rfl⟩,rfl⟩,g0⟩:=DsR.cons h
  obtain⟨_,_,rfl,⟨a1,h1,rfl⟩,g1⟩:=DsR.cons g0
  obtain⟨_,_,rfl,⟨_,⟨a2,h2,rfl⟩,rfl⟩,g2⟩:=DsR.cons g1
  obtain rfl:=DsR.nil g2
  exact zaO (zcK a0 a1 a2 h0 h1 h2)
theorem zbX:Tryz.pinned.checked.prog.stopsHeard=true:=by kernel_rfl
theorem zbs:Tryz.pinned.checked.prog.mayEnter=true:=by kernel_rfl
theorem zbp:(Rows.fnExactShardDropRow.lifted == Tryz.pinned.checked.prog.liftsFinal)=true:=by kernel_rfl
theorem zbn:(Tryz.pinned.checked.prog.make == some Rows.fnExactShardDropRow.make)=true:=by kernel_rfl
theorem zbF:(Rows.fnExactShardDropRow.named == Tryz.pinned.checked.prog.varsNamed 5)=true:=by kernel_rfl
theorem zbv:(Rows.fnExactShardDropRow.recurses == Tryz.pinned.checked.prog.recurses 5)=true:=by kernel_rfl
theorem zbq:(Rows.fnExactShardDropRow.unfollowed == Tryz.pinned.checked.prog.unfollowed 5)=true:=by kernel_rfl
theorem zbz:(Rows.fnExactShardDropRow.inPlace == Tryz.pinned.checked.prog.inPlace 5)=true:=by kernel_rfl
theorem zK{a b:Bool}(h:a=true)(h':b=true):(a&&b)=true:=by rw[h,h'];rfl
theorem za2:joinedFacts Tryz.pinned.checked.prog 5 Tryz.f5 Rows.fnExactShardDropSpec Rows.fnExactShardDropRow=true:=
 (zK (zK (zK (zK (zK (zK (zK (zK (zK (zK (zK (zK (zK (zK (zK (zK (zK (zK (zK (zK (zK (zK (zK (zK (zK (zK (zK (zK (zK (zK (zK (by kernel_rfl) (by kernel_rfl)) (by kernel_rfl)) (by kernel_rfl)) (by kernel_rfl)) (by kernel_rfl)) (by kernel_rfl)) (by kernel_rfl)) (by kernel_rfl)) zbz) zbq) zbv) zbF) (by kernel_rfl)) (by kernel_rfl)) (by kernel_rfl)) (by kernel_rfl)) (by kernel_rfl)) (by kernel_rfl)) (by kernel_rfl)) (by kernel_rfl)) (by kernel_rfl)) (by kernel_rfl)) (by kernel_rfl)) zbX) zbs) zbp) zbn) (by kernel_rfl)) (by kernel_rfl)) (by kernel_rfl)) (by kernel_rfl))
theorem fnExactShardDrop_holds:Rows.FnExactShardDropSaid:=
 OpenClaim.holds_of_wide 5 Tryz.f5 rfl rfl rfl rfl rfl rfl rfl ⟨rfl,rfl,rfl,rfl,rfl⟩ rfl rfl rfl rfl rfl (by kernel_rfl) Tryz.func5 za2
  (of_decide_eq_true (by kernel_rfl)) (by unfold Func.isWrapper;first|(rw[if_pos (by decide+kernel)];kernel_rfl)|(rw[if_neg (by decide+kernel)];exact⟨rfl,rfl⟩))
  (fun os started H enc _=>zaL os started H enc)
end Go.Proofs.YtpabbbmfcgnhdaaGreat
