/- The given statement: the law returns true for every input, and its arguments read as they did. Conditions: none. -/
import Derived.Test.YtpabbbmfcgnhdaaGreatDShardThawa
import Derived.Test.YtpabbbmfcgnhdaaGreatDShardThawb
import Derived.Test.YtpabbbmfcgnhdaaGreatDShardThawc
import Derived.Test.YtpabbbmfcgnhdaaGreatDShardThawd
import Derived.Test.YtpabbbmfcgnhdaaGreatDShardThawe
import Derived.Test.YtpabbbmfcgnhdaaGreatPShardThaw
import Derived.Test.YtpabbbmfcgnhdaaGreatBr
import Derived.Test.YtpabbbmfcgnhdaaGreatRows
import Derived.ProofKit
import Derived.KernelRfl
set_option linter.unusedVariables false
set_option maxRecDepth 100000
namespace Go.Proofs.YtpabbbmfcgnhdaaGreat
open Go.AW Go.ChangeShapes Go.WideShapes Go.ChangeAt Go.RowKit
theorem zmk:ownKnob Tryz.prog.godebug=none:=by kernel_rfl
theorem zkK:laidOutB Tryz.prog=true:=by kernel_rfl
theorem zbW:Rds Tryz.prog 3 (fun ds=>∃x:Int,(inK .i64) x∧ds=zt x):=Rds.int (by kernel_rfl)
theorem zmC:Rds Tryz.prog 54 (fun ds=>∃x:(List Int),(okS (inK .i64)) x∧ds=ZM x):=Rds.slice (f:=zt) (ok:=(inK .i64)) (sz:=1) (by kernel_rfl) (by kernel_rfl) (by decide) (fun _=>rfl) zbW
theorem zoj:Rds Tryz.prog 348 (fun ds=>∃x:zu,xd x∧ds=zj x):=by
 refine(Rds.struct (Rs:=[(1,fun ds=>∃x:Int,(inK .i64) x∧ds=zt x),(1,fun ds=>∃x:Int,(inK .i64) x∧ds=zt x)]) Tryz.underlying348 ⟨rfl,(by kernel_rfl:_=1),zbW,⟨rfl,(by kernel_rfl:_=1),zbW,trivial⟩⟩ (by kernel_rfl)).mono ?_
 rintro ds ⟨_,_,rfl,⟨x0,h0,rfl⟩,⟨_,_,rfl,⟨x1,h1,rfl⟩,rfl⟩⟩
 exact⟨⟨x0,x1⟩,⟨h0,h1⟩,rfl⟩
theorem zpD:Rds Tryz.prog 235 (fun ds=>∃x:(List zu),(okS xd) x∧ds=zcv x):=Rds.slice (f:=zj) (ok:=xd) (sz:=2) (by kernel_rfl) (by kernel_rfl) (by decide) (fun _=>rfl) zoj
theorem zuW:Rds Tryz.prog 237 (fun ds=>∃x:zL,Xx x∧ds=zA x):=by
 refine(Rds.struct (Rs:=[(1,fun ds=>∃x:Int,(inK .i64) x∧ds=zt x),(1,fun ds=>∃x:(List zu),(okS xd) x∧ds=zcv x)]) Tryz.underlying237 ⟨rfl,(by kernel_rfl:_=1),zbW,⟨rfl,(by kernel_rfl:_=1),zpD,trivial⟩⟩ (by kernel_rfl)).mono ?_
 rintro ds ⟨_,_,rfl,⟨x0,h0,rfl⟩,⟨_,_,rfl,⟨x1,h1,rfl⟩,rfl⟩⟩
 exact⟨⟨x0,x1⟩,⟨h0,h1⟩,rfl⟩
theorem zDz:Rds Tryz.prog 53 (fun ds=>∃x:(List zL),(okS Xx) x∧ds=zha x):=Rds.slice (f:=zA) (ok:=Xx) (sz:=2) (by kernel_rfl) (by kernel_rfl) (by decide) (fun _=>rfl) zuW
theorem zwq:Rds Tryz.prog 243 (fun ds=>∃x:zK,zbi x∧ds=zp x):=by
 refine(Rds.struct (Rs:=[(1,fun ds=>∃x:Int,(inK .i64) x∧ds=zt x),(1,fun ds=>∃x:Int,(inK .i64) x∧ds=zt x),(1,fun ds=>∃x:Int,(inK .i64) x∧ds=zt x),(1,fun ds=>∃x:Int,(inK .i64) x∧ds=zt x)]) Tryz.underlying243 ⟨rfl,(by kernel_rfl:_=1),zbW,⟨rfl,(by kernel_rfl:_=1),zbW,⟨rfl,(by kernel_rfl:_=1),zbW,⟨rfl,(by kernel_rfl:_=1),zbW,trivial⟩⟩⟩⟩ (by kernel_rfl)).mono ?_
 rintro ds ⟨_,_,rfl,⟨x0,h0,rfl⟩,⟨_,_,rfl,⟨x1,h1,rfl⟩,⟨_,_,rfl,⟨x2,h2,rfl⟩,⟨_,_,rfl,⟨x3,h3,rfl⟩,rfl⟩⟩⟩⟩
 exact⟨⟨x0,x1,x2,x3⟩,⟨h0,h1,h2,h3⟩,rfl⟩
theorem zBR:Rds Tryz.prog 52 (fun ds=>∃x:(List zK),(okS zbi) x∧ds=zgY x):=Rds.slice (f:=zp) (ok:=zbi) (sz:=4) (by kernel_rfl) (by kernel_rfl) (by decide) (fun _=>rfl) zwq
theorem zu0:Rds Tryz.prog 241 (fun ds=>∃x:zu,xd x∧ds=zj x):=by
 refine(Rds.struct (Rs:=[(1,fun ds=>∃x:Int,(inK .i64) x∧ds=zt x),(1,fun ds=>∃x:Int,(inK .i64) x∧ds=zt x)]) Tryz.underlying241 ⟨rfl,(by kernel_rfl:_=1),zbW,⟨rfl,(by kernel_rfl:_=1),zbW,trivial⟩⟩ (by kernel_rfl)).mono ?_
 rintro ds ⟨_,_,rfl,⟨x0,h0,rfl⟩,⟨_,_,rfl,⟨x1,h1,rfl⟩,rfl⟩⟩
 exact⟨⟨x0,x1⟩,⟨h0,h1⟩,rfl⟩
theorem zBW:Rds Tryz.prog 22 (fun ds=>∃x:(List zu),(okS xd) x∧ds=zcv x):=Rds.slice (f:=zj) (ok:=xd) (sz:=2) (by kernel_rfl) (by kernel_rfl) (by decide) (fun _=>rfl) zu0
theorem zmL:Rds Tryz.prog 58 (fun ds=>∃x:ze,Yk x∧ds=zd x):=by
 refine(Rds.struct (Rs:=[(1,fun ds=>∃x:Int,(inK .i64) x∧ds=zt x),(1,fun ds=>∃x:Int,(inK .i64) x∧ds=zt x)]) Tryz.underlying58 ⟨rfl,(by kernel_rfl:_=1),zbW,⟨rfl,(by kernel_rfl:_=1),zbW,trivial⟩⟩ (by kernel_rfl)).mono ?_
 rintro ds ⟨_,_,rfl,⟨x0,h0,rfl⟩,⟨_,_,rfl,⟨x1,h1,rfl⟩,rfl⟩⟩
 exact⟨⟨x0,x1⟩,⟨h0,h1⟩,rfl⟩
theorem zmD:Rds Tryz.prog 51 (fun ds=>∃x:(List ze),(okS Yk) x∧ds=Qc x):=Rds.slice (f:=zd) (ok:=Yk) (sz:=2) (by kernel_rfl) (by kernel_rfl) (by decide) (fun _=>rfl) zmL
theorem zDM:Rds Tryz.prog 56 (fun ds=>∃x:zn,KR x∧ds=zR x):=by
 refine(Rds.struct (Rs:=[(1,fun ds=>∃x:Int,(inK .i64) x∧ds=zt x),(1,fun ds=>∃x:(List ze),(okS Yk) x∧ds=Qc x),(1,fun ds=>∃x:(List ze),(okS Yk) x∧ds=Qc x),(1,fun ds=>∃x:(List zu),(okS xd) x∧ds=zcv x),(1,fun ds=>∃x:(List zK),(okS zbi) x∧ds=zgY x),(1,fun ds=>∃x:(List zL),(okS Xx) x∧ds=zha x),(1,fun ds=>∃x:(List Int),(okS (inK .i64)) x∧ds=ZM x),(1,fun ds=>∃x:(List Int),(okS (inK .i64)) x∧ds=ZM x),(1,fun ds=>∃x:Int,(inK .i64) x∧ds=zt x)]) Tryz.underlying56 ⟨rfl,(by kernel_rfl:_=1),zbW,⟨rfl,(by kernel_rfl:_=1),zmD,⟨rfl,(by kernel_rfl:_=1),zmD,⟨rfl,(by kernel_rfl:_=1),zBW,⟨rfl,(by kernel_rfl:_=1),zBR,⟨rfl,(by kernel_rfl:_=1),zDz,⟨rfl,(by kernel_rfl:_=1),zmC,⟨rfl,(by kernel_rfl:_=1),zmC,⟨rfl,(by kernel_rfl:_=1),zbW,trivial⟩⟩⟩⟩⟩⟩⟩⟩⟩ (by kernel_rfl)).mono ?_
 rintro ds ⟨_,_,rfl,⟨x0,h0,rfl⟩,⟨_,_,rfl,⟨x1,h1,rfl⟩,⟨_,_,rfl,⟨x2,h2,rfl⟩,⟨_,_,rfl,⟨x3,h3,rfl⟩,⟨_,_,rfl,⟨x4,h4,rfl⟩,⟨_,_,rfl,⟨x5,h5,rfl⟩,⟨_,_,rfl,⟨x6,h6,rfl⟩,⟨_,_,rfl,⟨x7,h7,rfl⟩,⟨_,_,rfl,⟨x8,h8,rfl⟩,rfl⟩⟩⟩⟩⟩⟩⟩⟩⟩
 exact⟨⟨x0,x1,x2,x3,x4,x5,x6,x7,x8⟩,⟨h0,h1,h2,h3,h4,h5,h6,h7,h8⟩,rfl⟩
theorem K5(os:Os)(started:os.Started)(H:Type)(enc:TypeId×Value→H):
  ReturnsInHanded {} Tryz.checked os 4 .any (Rows.fnExactShardThawSpec.pre6 enc Tryz.prog Tryz.f4 Rows.fnExactShardThawRow.domain false) (Rows.fnExactShardThawSpec.post enc Tryz.prog Tryz.f4 false true false false):=by
 refine returnsInHanded_of_change (C:=Tryz.checked) zmk started (by kernel_rfl) Tryz.func4
  (ChangeSpec.witness6 (enc:=enc) (C:=Tryz.checked) false ⟨#[],#[.agg #[.int .i64 0,.slice none 0 0,.slice none 0 0,.slice none 0 0,.slice none 0 0,.slice none 0 0,.slice none 0 0,.slice none 0 0,.int .i64 0],.int .i64 0,.agg #[.int .i64 0,.int .i64 0]],[]⟩ 8 (by kernel_rfl) (by kernel_rfl) (by kernel_rfl) (by kernel_rfl)) ?_
 intro W base args ds gs before hval hW hcnd _
 have hR:ziF Tryz.prog Tryz.f4.params.toList [fun x=>∃ds,(∃a:zn,KR a∧ds=zR a)∧x= .agg ds,fun x=>∃a:Int,(inK .i64) a∧x=(.int .i64 a),fun x=>∃ds,(∃a:ze,Yk a∧ds=zd a)∧x= .agg ds]:=by rw[Tryz.params4];exact⟨(zxN Tryz.underlying56 zDM),⟨(zFB (R:=fun x=>∃a:Int,(inK .i64) a∧x=(.int .i64 a)) (by kernel_rfl) (zbW.mono fun ds ⟨a,h,e⟩=>⟨_,⟨a,h,rfl⟩,rfl,e⟩)),⟨(zxN Tryz.underlying58 zmL),trivial⟩⟩⟩
 refine zjl (P:=Tryz.prog) (tb:=4) zkK rfl (fun ds h=> ?_) (by kernel_rfl) (by kernel_rfl) (by kernel_rfl) hR (fun xs h=> ?_) hval hW
 ·rw[Tryz.params4] at h
  exact match ds,h with
   |[_,_,_],_=>rfl
 ·obtain⟨_,_,rfl,⟨_,⟨a0,h0,rfl⟩,rfl⟩,g0⟩:=DsR.cons h
  obtain⟨_,_,rfl,⟨a1,h1,rfl⟩,g1⟩:=DsR.cons g0
  obtain⟨_,_,rfl,⟨_,⟨a2,h2,rfl⟩,rfl⟩,g2⟩:=DsR.cons g1
  obtain rfl:=DsR.nil g2
  exact K4 (zca a0 a1 a2 h0 h1 h2)
theorem za7:Tryz.pinned.checked.prog.stopsHeard=true:=by kernel_rfl
theorem za4:Tryz.pinned.checked.prog.mayEnter=true:=by kernel_rfl
theorem zaI:(Rows.fnExactShardThawRow.lifted == Tryz.pinned.checked.prog.liftsFinal)=true:=by kernel_rfl
theorem zbg:(Tryz.pinned.checked.prog.make == some Rows.fnExactShardThawRow.make)=true:=by kernel_rfl
theorem zaO:(Rows.fnExactShardThawRow.named == Tryz.pinned.checked.prog.varsNamed 4)=true:=by kernel_rfl
theorem zaC:(Rows.fnExactShardThawRow.recurses == Tryz.pinned.checked.prog.recurses 4)=true:=by kernel_rfl
theorem za6:(Rows.fnExactShardThawRow.unfollowed == Tryz.pinned.checked.prog.unfollowed 4)=true:=by kernel_rfl
theorem zbd:(Rows.fnExactShardThawRow.inPlace == Tryz.pinned.checked.prog.inPlace 4)=true:=by kernel_rfl
theorem zI{a b:Bool}(h:a=true)(h':b=true):(a&&b)=true:=by rw[h,h'];rfl
theorem zaj:joinedFacts Tryz.pinned.checked.prog 4 Tryz.f4 Rows.fnExactShardThawSpec Rows.fnExactShardThawRow=true:=
 (zI (zI (zI (zI (zI (zI (zI (zI (zI (zI (zI (zI (zI (zI (zI (zI (zI (zI (zI (zI (zI (zI (zI (zI (zI (zI (zI (zI (zI (zI (zI (by kernel_rfl) (by kernel_rfl)) (by kernel_rfl)) (by kernel_rfl)) (by kernel_rfl)) (by kernel_rfl)) (by kernel_rfl)) (by kernel_rfl)) (by kernel_rfl)) zbd) za6) zaC) zaO) (by kernel_rfl)) (by kernel_rfl)) (by kernel_rfl)) (by kernel_rfl)) (by kernel_rfl)) (by kernel_rfl)) (by kernel_rfl)) (by kernel_rfl)) (by kernel_rfl)) (by kernel_rfl)) (by kernel_rfl)) za7) za4) zaI) zbg) (by kernel_rfl)) (by kernel_rfl)) (by kernel_rfl)) (by kernel_rfl))
theorem fnExactShardThaw_holds:Rows.FnExactShardThawSaid:=
 OpenClaim.holds_of_wide 4 Tryz.f4 rfl rfl rfl rfl rfl rfl rfl ⟨rfl,rfl,rfl,rfl,rfl⟩ rfl rfl rfl rfl rfl (by kernel_rfl) Tryz.func4 zaj
  (of_decide_eq_true (by kernel_rfl)) (by unfold Func.isWrapper;first|(rw[if_pos (by decide+kernel)];kernel_rfl)|(rw[if_neg (by decide+kernel)];exact⟨rfl,rfl⟩))
  (fun os started H enc _=>K5 os started H enc)
end Go.Proofs.YtpabbbmfcgnhdaaGreat
