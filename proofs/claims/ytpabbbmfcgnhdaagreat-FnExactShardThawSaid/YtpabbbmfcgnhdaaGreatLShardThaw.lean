/- The given statement: the law returns true for every input, and its arguments read as they did. Conditions: none. -/
import Derived.Test.YtpabbbmfcgnhdaaGreatDShardThawa
import Derived.Test.YtpabbbmfcgnhdaaGreatDShardThawb
import Derived.Test.YtpabbbmfcgnhdaaGreatDShardThawc
import Derived.Test.YtpabbbmfcgnhdaaGreatDShardThawd
import Derived.Test.YtpabbbmfcgnhdaaGreatDShardThawe
import Derived.Test.YtpabbbmfcgnhdaaGreatPShardThaw
import Derived.Test.YtpabbbmfcgnhdaaGreatBr
import Derived.Test.YtpabbbmfcgnhdaaGreatRows
import Derived.ProofKit
import Derived.KernelRfl
set_option linter.unusedVariables false
set_option maxRecDepth 100000
namespace Go.Proofs.YtpabbbmfcgnhdaaGreat
open Go.AW Go.ChangeShapes Go.WideShapes Go.ChangeAt Go.RowKit
theorem zlD:ownKnob Tryz.prog.godebug=none:=by kernel_rfl
theorem zkw:laidOutB Tryz.prog=true:=by kernel_rfl
theorem zb0:Rds Tryz.prog 3 (fun ds=>∃x:Int,(inK .i64) x∧ds=zt x):=Rds.int (by kernel_rfl)
theorem zmF:Rds Tryz.prog 54 (fun ds=>∃x:(List Int),(okS (inK .i64)) x∧ds=ZN x):=Rds.slice (f:=zt) (ok:=(inK .i64)) (sz:=1) (by kernel_rfl) (by kernel_rfl) (by decide) (fun _=>rfl) zb0
theorem zvX:Rds Tryz.prog 348 (fun ds=>∃x:zu,Y5 x∧ds=zj x):=by
 refine(Rds.struct (Rs:=[(1,fun ds=>∃x:Int,(inK .i64) x∧ds=zt x),(1,fun ds=>∃x:Int,(inK .i64) x∧ds=zt x)]) Tryz.underlying348 ⟨rfl,(by kernel_rfl:_=1),zb0,⟨rfl,(by kernel_rfl:_=1),zb0,trivial⟩⟩ (by kernel_rfl)).mono ?_
 rintro ds ⟨_,_,rfl,⟨x0,h0,rfl⟩,⟨_,_,rfl,⟨x1,h1,rfl⟩,rfl⟩⟩
 exact⟨⟨x0,x1⟩,⟨h0,h1⟩,rfl⟩
theorem zuL:Rds Tryz.prog 235 (fun ds=>∃x:(List zu),(okS Y5) x∧ds=zcD x):=Rds.slice (f:=zj) (ok:=Y5) (sz:=2) (by kernel_rfl) (by kernel_rfl) (by decide) (fun _=>rfl) zvX
theorem zoG:Rds Tryz.prog 237 (fun ds=>∃x:zL,Xu x∧ds=zA x):=by
 refine(Rds.struct (Rs:=[(1,fun ds=>∃x:Int,(inK .i64) x∧ds=zt x),(1,fun ds=>∃x:(List zu),(okS Y5) x∧ds=zcD x)]) Tryz.underlying237 ⟨rfl,(by kernel_rfl:_=1),zb0,⟨rfl,(by kernel_rfl:_=1),zuL,trivial⟩⟩ (by kernel_rfl)).mono ?_
 rintro ds ⟨_,_,rfl,⟨x0,h0,rfl⟩,⟨_,_,rfl,⟨x1,h1,rfl⟩,rfl⟩⟩
 exact⟨⟨x0,x1⟩,⟨h0,h1⟩,rfl⟩
theorem zCZ:Rds Tryz.prog 53 (fun ds=>∃x:(List zL),(okS Xu) x∧ds=zhc x):=Rds.slice (f:=zA) (ok:=Xu) (sz:=2) (by kernel_rfl) (by kernel_rfl) (by decide) (fun _=>rfl) zoG
theorem zn4:Rds Tryz.prog 243 (fun ds=>∃x:zK,zaE x∧ds=zp x):=by
 refine(Rds.struct (Rs:=[(1,fun ds=>∃x:Int,(inK .i64) x∧ds=zt x),(1,fun ds=>∃x:Int,(inK .i64) x∧ds=zt x),(1,fun ds=>∃x:Int,(inK .i64) x∧ds=zt x),(1,fun ds=>∃x:Int,(inK .i64) x∧ds=zt x)]) Tryz.underlying243 ⟨rfl,(by kernel_rfl:_=1),zb0,⟨rfl,(by kernel_rfl:_=1),zb0,⟨rfl,(by kernel_rfl:_=1),zb0,⟨rfl,(by kernel_rfl:_=1),zb0,trivial⟩⟩⟩⟩ (by kernel_rfl)).mono ?_
 rintro ds ⟨_,_,rfl,⟨x0,h0,rfl⟩,⟨_,_,rfl,⟨x1,h1,rfl⟩,⟨_,_,rfl,⟨x2,h2,rfl⟩,⟨_,_,rfl,⟨x3,h3,rfl⟩,rfl⟩⟩⟩⟩
 exact⟨⟨x0,x1,x2,x3⟩,⟨h0,h1,h2,h3⟩,rfl⟩
theorem zCP:Rds Tryz.prog 52 (fun ds=>∃x:(List zK),(okS zaE) x∧ds=zhC x):=Rds.slice (f:=zp) (ok:=zaE) (sz:=4) (by kernel_rfl) (by kernel_rfl) (by decide) (fun _=>rfl) zn4
theorem zsV:Rds Tryz.prog 241 (fun ds=>∃x:zu,Y5 x∧ds=zj x):=by
 refine(Rds.struct (Rs:=[(1,fun ds=>∃x:Int,(inK .i64) x∧ds=zt x),(1,fun ds=>∃x:Int,(inK .i64) x∧ds=zt x)]) Tryz.underlying241 ⟨rfl,(by kernel_rfl:_=1),zb0,⟨rfl,(by kernel_rfl:_=1),zb0,trivial⟩⟩ (by kernel_rfl)).mono ?_
 rintro ds ⟨_,_,rfl,⟨x0,h0,rfl⟩,⟨_,_,rfl,⟨x1,h1,rfl⟩,rfl⟩⟩
 exact⟨⟨x0,x1⟩,⟨h0,h1⟩,rfl⟩
theorem zAZ:Rds Tryz.prog 22 (fun ds=>∃x:(List zu),(okS Y5) x∧ds=zcD x):=Rds.slice (f:=zj) (ok:=Y5) (sz:=2) (by kernel_rfl) (by kernel_rfl) (by decide) (fun _=>rfl) zsV
theorem zmK:Rds Tryz.prog 58 (fun ds=>∃x:ze,YH x∧ds=zd x):=by
 refine(Rds.struct (Rs:=[(1,fun ds=>∃x:Int,(inK .i64) x∧ds=zt x),(1,fun ds=>∃x:Int,(inK .i64) x∧ds=zt x)]) Tryz.underlying58 ⟨rfl,(by kernel_rfl:_=1),zb0,⟨rfl,(by kernel_rfl:_=1),zb0,trivial⟩⟩ (by kernel_rfl)).mono ?_
 rintro ds ⟨_,_,rfl,⟨x0,h0,rfl⟩,⟨_,_,rfl,⟨x1,h1,rfl⟩,rfl⟩⟩
 exact⟨⟨x0,x1⟩,⟨h0,h1⟩,rfl⟩
theorem zmA:Rds Tryz.prog 51 (fun ds=>∃x:(List ze),(okS YH) x∧ds=Qp x):=Rds.slice (f:=zd) (ok:=YH) (sz:=2) (by kernel_rfl) (by kernel_rfl) (by decide) (fun _=>rfl) zmK
theorem zAR:Rds Tryz.prog 56 (fun ds=>∃x:zn,KS x∧ds=zS x):=by
 refine(Rds.struct (Rs:=[(1,fun ds=>∃x:Int,(inK .i64) x∧ds=zt x),(1,fun ds=>∃x:(List ze),(okS YH) x∧ds=Qp x),(1,fun ds=>∃x:(List ze),(okS YH) x∧ds=Qp x),(1,fun ds=>∃x:(List zu),(okS Y5) x∧ds=zcD x),(1,fun ds=>∃x:(List zK),(okS zaE) x∧ds=zhC x),(1,fun ds=>∃x:(List zL),(okS Xu) x∧ds=zhc x),(1,fun ds=>∃x:(List Int),(okS (inK .i64)) x∧ds=ZN x),(1,fun ds=>∃x:(List Int),(okS (inK .i64)) x∧ds=ZN x),(1,fun ds=>∃x:Int,(inK .i64) x∧ds=zt x)]) Tryz.underlying56 ⟨rfl,(by kernel_rfl:_=1),zb0,⟨rfl,(by kernel_rfl:_=1),zmA,⟨rfl,(by kernel_rfl:_=1),zmA,⟨rfl,(by kernel_rfl:_=1),zAZ,⟨rfl,(by kernel_rfl:_=1),zCP,⟨rfl,(by kernel_rfl:_=1),zCZ,⟨rfl,(by kernel_rfl:_=1),zmF,⟨rfl,(by kernel_rfl:_=1),zmF,⟨rfl,(by kernel_rfl:_=1),zb0,trivial⟩⟩⟩⟩⟩⟩⟩⟩⟩ (by kernel_rfl)).mono ?_
 rintro ds ⟨_,_,rfl,⟨x0,h0,rfl⟩,⟨_,_,rfl,⟨x1,h1,rfl⟩,⟨_,_,rfl,⟨x2,h2,rfl⟩,⟨_,_,rfl,⟨x3,h3,rfl⟩,⟨_,_,rfl,⟨x4,h4,rfl⟩,⟨_,_,rfl,⟨x5,h5,rfl⟩,⟨_,_,rfl,⟨x6,h6,rfl⟩,⟨_,_,rfl,⟨x7,h7,rfl⟩,⟨_,_,rfl,⟨x8,h8,rfl⟩,rfl⟩⟩⟩⟩⟩⟩⟩⟩⟩
 exact⟨⟨x0,x1,x2,x3,x4,x5,x6,x7,x8⟩,⟨h0,h1,h2,h3,h4,h5,h6,h7,h8⟩,rfl⟩
theorem K0(os:Os)(started:os.Started)(H:Type)(enc:TypeId×Value→H):
  ReturnsInHanded {} Tryz.checked os 4 .any (Rows.fnExactShardThawSpec.pre6 enc Tryz.prog Tryz.f4 Rows.fnExactShardThawRow.domain false) (Rows.fnExactShardThawSpec.post enc Tryz.prog Tryz.f4 false true false false):=by
 refine returnsInHanded_of_change (C:=Tryz.checked) zlD started (by kernel_rfl) Tryz.func4
  (ChangeSpec.witness6 (enc:=enc) (C:=Tryz.checked) false ⟨#[],#[.agg #[.int .i64 0,.slice none 0 0,.slice none 0 0,.slice none 0 0,.slice none 0 0,.slice none 0 0,.slice none 0 0,.slice none 0 0,.int .i64 0],.int .i64 0,.agg #[.int .i64 0,.int .i64 0]],[]⟩ 8 (by kernel_rfl) (by kernel_rfl) (by kernel_rfl) (by kernel_rfl)) ?_
 intro W base args ds gs before hval hW hcnd _
 have hR:ziX Tryz.prog Tryz.f4.params.toList [fun x=>∃ds,(∃a:zn,KS a∧ds=zS a)∧x= .agg ds,fun x=>∃a:Int,(inK .i64) a∧x=(.int .i64 a),fun x=>∃ds,(∃a:ze,YH a∧ds=zd a)∧x= .agg ds]:=by rw[Tryz.params4];exact⟨(zDi Tryz.underlying56 zAR),⟨(zEw (R:=fun x=>∃a:Int,(inK .i64) a∧x=(.int .i64 a)) (by kernel_rfl) (zb0.mono fun ds ⟨a,h,e⟩=>⟨_,⟨a,h,rfl⟩,rfl,e⟩)),⟨(zDi Tryz.underlying58 zmK),trivial⟩⟩⟩
 refine zjz (P:=Tryz.prog) (tb:=4) zkw rfl (fun ds h=> ?_) (by kernel_rfl) (by kernel_rfl) (by kernel_rfl) hR (fun xs h=> ?_) hval hW
 ·rw[Tryz.params4] at h
  exact match ds,h with
   |[_,_,_],_=>rfl
 ·obtain⟨_,_,rfl,⟨_,⟨a0,h0,rfl⟩,rfl⟩,g0⟩:=DsR.cons h
  obtain⟨_,_,rfl,⟨a1,h1,rfl⟩,g1⟩:=DsR.cons g0
  obtain⟨_,_,rfl,⟨_,⟨a2,h2,rfl⟩,rfl⟩,g2⟩:=DsR.cons g1
  obtain rfl:=DsR.nil g2
  exact KN (zbX a0 a1 a2 h0 h1 h2)
theorem zbf:Tryz.pinned.checked.prog.stopsHeard=true:=by kernel_rfl
theorem za1:Tryz.pinned.checked.prog.mayEnter=true:=by kernel_rfl
theorem zaB:(Rows.fnExactShardThawRow.lifted == Tryz.pinned.checked.prog.liftsFinal)=true:=by kernel_rfl
theorem zaC:(Tryz.pinned.checked.prog.make == some Rows.fnExactShardThawRow.make)=true:=by kernel_rfl
theorem zaT:(Rows.fnExactShardThawRow.named == Tryz.pinned.checked.prog.varsNamed 4)=true:=by kernel_rfl
theorem zaJ:(Rows.fnExactShardThawRow.recurses == Tryz.pinned.checked.prog.recurses 4)=true:=by kernel_rfl
theorem zaK:(Rows.fnExactShardThawRow.unfollowed == Tryz.pinned.checked.prog.unfollowed 4)=true:=by kernel_rfl
theorem za9:(Rows.fnExactShardThawRow.inPlace == Tryz.pinned.checked.prog.inPlace 4)=true:=by kernel_rfl
theorem zI{a b:Bool}(h:a=true)(h':b=true):(a&&b)=true:=by rw[h,h'];rfl
theorem zab:joinedFacts Tryz.pinned.checked.prog 4 Tryz.f4 Rows.fnExactShardThawSpec Rows.fnExactShardThawRow=true:=
 (zI (zI (zI (zI (zI (zI (zI (zI (zI (zI (zI (zI (zI (zI (zI (zI (zI (zI (zI (zI (zI (zI (zI (zI (zI (zI (zI (zI (zI (zI (zI (by kernel_rfl) (by kernel_rfl)) (by kernel_rfl)) (by kernel_rfl)) (by kernel_rfl)) (by kernel_rfl)) (by kernel_rfl)) (by kernel_rfl)) (by kernel_rfl)) za9) zaK) zaJ) zaT) (by kernel_rfl)) (by kernel_rfl)) (by kernel_rfl)) (by kernel_rfl)) (by kernel_rfl)) (by kernel_rfl)) (by kernel_rfl)) (by kernel_rfl)) (by kernel_rfl)) (by kernel_rfl)) (by kernel_rfl)) zbf) za1) zaB) zaC) (by kernel_rfl)) (by kernel_rfl)) (by kernel_rfl)) (by kernel_rfl))
theorem fnExactShardThaw_holds:Rows.FnExactShardThawSaid:=
 OpenClaim.holds_of_wide 4 Tryz.f4 rfl rfl rfl rfl rfl rfl rfl ⟨rfl,rfl,rfl,rfl,rfl⟩ rfl rfl rfl rfl rfl (by kernel_rfl) Tryz.func4 zab
  (of_decide_eq_true (by kernel_rfl)) (by unfold Func.isWrapper;first|(rw[if_pos (by decide+kernel)];kernel_rfl)|(rw[if_neg (by decide+kernel)];exact⟨rfl,rfl⟩))
  (fun os started H enc _=>K0 os started H enc)
end Go.Proofs.YtpabbbmfcgnhdaaGreat
