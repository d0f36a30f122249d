/- The given statement: the law returns true for every input, and its arguments read as they did. Conditions: none. -/
import Derived.Test.YtlcjjljmjdmobaaDCoordVotea
import Derived.Test.YtlcjjljmjdmobaaDCoordVoteb
import Derived.Test.YtlcjjljmjdmobaaDCoordVotec
import Derived.Test.YtlcjjljmjdmobaaPCoordVote
import Derived.Test.YtlcjjljmjdmobaaBr
import Derived.Test.YtlcjjljmjdmobaaRows
import Derived.ProofKit
import Derived.KernelRfl
set_option linter.unusedVariables false
set_option maxRecDepth 100000
namespace Go.Proofs.Ytlcjjljmjdmobaa
open Go.AW Go.ChangeShapes Go.WideShapes Go.ChangeAt Go.RowKit
theorem zgb:ownKnob Try.prog.godebug=none:=by kernel_rfl
theorem zeY:laidOutB Try.prog=true:=by kernel_rfl
theorem Xr:Rds Try.prog 3 (fun ds=>∃x:Int,(inK .i64) x∧ds=zA x):=Rds.int (by kernel_rfl)
theorem zoy:Rds Try.prog 34 (fun ds=>∃x:(List Int),(okS (inK .i64)) x∧ds=zeO x):=Rds.slice (f:=zA) (ok:=(inK .i64)) (sz:=1) (by kernel_rfl) (by kernel_rfl) (by decide) (fun _=>rfl) Xr
theorem ziz:Rds Try.prog 192 (fun ds=>∃x:zO,xU x∧ds=zG x):=by
 refine(Rds.struct (Rs:=[(1,fun ds=>∃x:Int,(inK .i64) x∧ds=zA x),(1,fun ds=>∃x:Int,(inK .i64) x∧ds=zA x)]) Try.underlying192 ⟨rfl,(by kernel_rfl:_=1),Xr,⟨rfl,(by kernel_rfl:_=1),Xr,trivial⟩⟩ (by kernel_rfl)).mono ?_
 rintro ds ⟨_,_,rfl,⟨x0,h0,rfl⟩,⟨_,_,rfl,⟨x1,h1,rfl⟩,rfl⟩⟩
 exact⟨⟨x0,x1⟩,⟨h0,h1⟩,rfl⟩
theorem zk2:Rds Try.prog 175 (fun ds=>∃x:(List zO),(okS xU) x∧ds=zci x):=Rds.slice (f:=zG) (ok:=xU) (sz:=2) (by kernel_rfl) (by kernel_rfl) (by decide) (fun _=>rfl) ziz
theorem zht:Rds Try.prog 190 (fun ds=>∃x:zC,YR x∧ds=zx x):=by
 refine(Rds.struct (Rs:=[(1,fun ds=>∃x:Int,(inK .i64) x∧ds=zA x),(1,fun ds=>∃x:Int,(inK .i64) x∧ds=zA x)]) Try.underlying190 ⟨rfl,(by kernel_rfl:_=1),Xr,⟨rfl,(by kernel_rfl:_=1),Xr,trivial⟩⟩ (by kernel_rfl)).mono ?_
 rintro ds ⟨_,_,rfl,⟨x0,h0,rfl⟩,⟨_,_,rfl,⟨x1,h1,rfl⟩,rfl⟩⟩
 exact⟨⟨x0,x1⟩,⟨h0,h1⟩,rfl⟩
theorem zky:Rds Try.prog 174 (fun ds=>∃x:(List zC),(okS YR) x∧ds=zaS x):=Rds.slice (f:=zx) (ok:=YR) (sz:=2) (by kernel_rfl) (by kernel_rfl) (by decide) (fun _=>rfl) zht
theorem zil:Rds Try.prog 177 (fun ds=>∃x:zb,QV x∧ds=zd x):=by
 refine(Rds.struct (Rs:=[(1,fun ds=>∃x:Int,(inK .i64) x∧ds=zA x),(1,fun ds=>∃x:(List zC),(okS YR) x∧ds=zaS x),(1,fun ds=>∃x:(List zO),(okS xU) x∧ds=zci x),(1,fun ds=>∃x:Int,(inK .i64) x∧ds=zA x)]) Try.underlying177 ⟨rfl,(by kernel_rfl:_=1),Xr,⟨rfl,(by kernel_rfl:_=1),zky,⟨rfl,(by kernel_rfl:_=1),zk2,⟨rfl,(by kernel_rfl:_=1),Xr,trivial⟩⟩⟩⟩ (by kernel_rfl)).mono ?_
 rintro ds ⟨_,_,rfl,⟨x0,h0,rfl⟩,⟨_,_,rfl,⟨x1,h1,rfl⟩,⟨_,_,rfl,⟨x2,h2,rfl⟩,⟨_,_,rfl,⟨x3,h3,rfl⟩,rfl⟩⟩⟩⟩
 exact⟨⟨x0,x1,x2,x3⟩,⟨h0,h1,h2,h3⟩,rfl⟩
theorem zlM:Rds Try.prog 129 (fun ds=>∃x:(List zb),(okS QV) x∧ds=za2 x):=Rds.slice (f:=zd) (ok:=QV) (sz:=4) (by kernel_rfl) (by kernel_rfl) (by decide) (fun _=>rfl) zil
theorem zhx:Rds Try.prog 131 (fun ds=>∃x:zp,Yv x∧ds=zl x):=by
 refine(Rds.struct (Rs:=[(1,fun ds=>∃x:Int,(inK .i64) x∧ds=zA x),(1,fun ds=>∃x:Int,(inK .i64) x∧ds=zA x),(1,fun ds=>∃x:Int,(inK .i64) x∧ds=zA x),(1,fun ds=>∃x:Int,(inK .i64) x∧ds=zA x),(1,fun ds=>∃x:(List zb),(okS QV) x∧ds=za2 x)]) Try.underlying131 ⟨rfl,(by kernel_rfl:_=1),Xr,⟨rfl,(by kernel_rfl:_=1),Xr,⟨rfl,(by kernel_rfl:_=1),Xr,⟨rfl,(by kernel_rfl:_=1),Xr,⟨rfl,(by kernel_rfl:_=1),zlM,trivial⟩⟩⟩⟩⟩ (by kernel_rfl)).mono ?_
 rintro ds ⟨_,_,rfl,⟨x0,h0,rfl⟩,⟨_,_,rfl,⟨x1,h1,rfl⟩,⟨_,_,rfl,⟨x2,h2,rfl⟩,⟨_,_,rfl,⟨x3,h3,rfl⟩,⟨_,_,rfl,⟨x4,h4,rfl⟩,rfl⟩⟩⟩⟩⟩
 exact⟨⟨x0,x1,x2,x3,x4⟩,⟨h0,h1,h2,h3,h4⟩,rfl⟩
theorem zrP:Rds Try.prog 59 (fun ds=>∃x:(List zp),(okS Yv) x∧ds=zdC x):=Rds.slice (f:=zl) (ok:=Yv) (sz:=5) (by kernel_rfl) (by kernel_rfl) (by decide) (fun _=>rfl) zhx
theorem zqX:Rds Try.prog 61 (fun ds=>∃x:zw,YL x∧ds=qL x):=by
 refine(Rds.struct (Rs:=[(1,fun ds=>∃x:(List zp),(okS Yv) x∧ds=zdC x),(1,fun ds=>∃x:(List Int),(okS (inK .i64)) x∧ds=zeO x)]) Try.underlying61 ⟨rfl,(by kernel_rfl:_=1),zrP,⟨rfl,(by kernel_rfl:_=1),zoy,trivial⟩⟩ (by kernel_rfl)).mono ?_
 rintro ds ⟨_,_,rfl,⟨x0,h0,rfl⟩,⟨_,_,rfl,⟨x1,h1,rfl⟩,rfl⟩⟩
 exact⟨⟨x0,x1⟩,⟨h0,h1⟩,rfl⟩
theorem zr4:Rds Try.prog 4 (fun ds=>∃x:Bool,(fun _:Bool=>True) x∧ds=zkp x):=Rds.bool (by kernel_rfl)
theorem YW(os:Os)(started:os.Started)(H:Type)(enc:TypeId×Value→H):
  ReturnsInHanded {} Try.checked os 6 .any (Rows.fnExactCoordVoteSpec.pre6 enc Try.prog Try.f6 Rows.fnExactCoordVoteRow.domain false) (Rows.fnExactCoordVoteSpec.post enc Try.prog Try.f6 false true false false):=by
 refine returnsInHanded_of_change (C:=Try.checked) zgb started (by kernel_rfl) Try.func6
  (ChangeSpec.witness6 (enc:=enc) (C:=Try.checked) false ⟨#[],#[.agg #[.slice none 0 0,.slice none 0 0],.int .i64 0,.int .i64 0,.bool false],[]⟩ 8 (by kernel_rfl) (by kernel_rfl) (by kernel_rfl) (by kernel_rfl)) ?_
 intro W base args ds gs before hval hW hcnd _
 have hR:zdE Try.prog Try.f6.params.toList [fun x=>∃ds,(∃a:zw,YL a∧ds=qL a)∧x= .agg ds,fun x=>∃a:Int,(inK .i64) a∧x=(.int .i64 a),fun x=>∃a:Int,(inK .i64) a∧x=(.int .i64 a),fun x=>∃a:Bool,(fun _:Bool=>True) a∧x=(.bool a)]:=by rw[Try.params6];exact⟨(zr8 Try.underlying61 zqX),⟨(zja (R:=fun x=>∃a:Int,(inK .i64) a∧x=(.int .i64 a)) (by kernel_rfl) (Xr.mono fun ds ⟨a,h,e⟩=>⟨_,⟨a,h,rfl⟩,rfl,e⟩)),⟨(zja (R:=fun x=>∃a:Int,(inK .i64) a∧x=(.int .i64 a)) (by kernel_rfl) (Xr.mono fun ds ⟨a,h,e⟩=>⟨_,⟨a,h,rfl⟩,rfl,e⟩)),⟨(zja (R:=fun x=>∃a:Bool,(fun _:Bool=>True) a∧x=(.bool a)) (by kernel_rfl) (zr4.mono fun ds ⟨a,h,e⟩=>⟨_,⟨a,h,rfl⟩,rfl,e⟩)),trivial⟩⟩⟩⟩
 refine zea (P:=Try.prog) (tb:=4) zeY rfl (fun ds h=> ?_) (by kernel_rfl) (by kernel_rfl) (by kernel_rfl) hR (fun xs h=> ?_) hval hW
 ·rw[Try.params6] at h
  exact match ds,h with
   |[_,_,_,_],_=>rfl
 ·obtain⟨_,_,rfl,⟨_,⟨a0,h0,rfl⟩,rfl⟩,g0⟩:=DsR.cons h
  obtain⟨_,_,rfl,⟨a1,h1,rfl⟩,g1⟩:=DsR.cons g0
  obtain⟨_,_,rfl,⟨a2,h2,rfl⟩,g2⟩:=DsR.cons g1
  obtain⟨_,_,rfl,⟨a3,h3,rfl⟩,g3⟩:=DsR.cons g2
  obtain rfl:=DsR.nil g3
  exact YV (ko a0 a1 a2 a3 h0 h1 h2 h3)
theorem xj:Try.pinned.checked.prog.stopsHeard=true:=by kernel_rfl
theorem xR:Try.pinned.checked.prog.mayEnter=true:=by kernel_rfl
theorem xK:(Rows.fnExactCoordVoteRow.lifted == Try.pinned.checked.prog.liftsFinal)=true:=by kernel_rfl
theorem xw:(Try.pinned.checked.prog.make == some Rows.fnExactCoordVoteRow.make)=true:=by kernel_rfl
theorem xL:(Rows.fnExactCoordVoteRow.named == Try.pinned.checked.prog.varsNamed 6)=true:=by kernel_rfl
theorem xA:(Rows.fnExactCoordVoteRow.recurses == Try.pinned.checked.prog.recurses 6)=true:=by kernel_rfl
theorem xq:(Rows.fnExactCoordVoteRow.unfollowed == Try.pinned.checked.prog.unfollowed 6)=true:=by kernel_rfl
theorem xr:(Rows.fnExactCoordVoteRow.inPlace == Try.pinned.checked.prog.inPlace 6)=true:=by kernel_rfl
theorem zu{a b:Bool}(h:a=true)(h':b=true):(a&&b)=true:=by rw[h,h'];rfl
theorem Y0:joinedFacts Try.pinned.checked.prog 6 Try.f6 Rows.fnExactCoordVoteSpec Rows.fnExactCoordVoteRow=true:=
 (zu (zu (zu (zu (zu (zu (zu (zu (zu (zu (zu (zu (zu (zu (zu (zu (zu (zu (zu (zu (zu (zu (zu (zu (zu (zu (zu (zu (zu (zu (zu (by kernel_rfl) (by kernel_rfl)) (by kernel_rfl)) (by kernel_rfl)) (by kernel_rfl)) (by kernel_rfl)) (by kernel_rfl)) (by kernel_rfl)) (by kernel_rfl)) xr) xq) xA) xL) (by kernel_rfl)) (by kernel_rfl)) (by kernel_rfl)) (by kernel_rfl)) (by kernel_rfl)) (by kernel_rfl)) (by kernel_rfl)) (by kernel_rfl)) (by kernel_rfl)) (by kernel_rfl)) (by kernel_rfl)) xj) xR) xK) xw) (by kernel_rfl)) (by kernel_rfl)) (by kernel_rfl)) (by kernel_rfl))
theorem fnExactCoordVote_holds:Rows.FnExactCoordVoteSaid:=
 OpenClaim.holds_of_wide 6 Try.f6 rfl rfl rfl rfl rfl rfl rfl ⟨rfl,rfl,rfl,rfl,rfl⟩ rfl rfl rfl rfl rfl (by kernel_rfl) Try.func6 Y0
  (of_decide_eq_true (by kernel_rfl)) (by unfold Func.isWrapper;first|(rw[if_pos (by decide+kernel)];kernel_rfl)|(rw[if_neg (by decide+kernel)];exact⟨rfl,rfl⟩))
  (fun os started H enc _=>YW os started H enc)
end Go.Proofs.Ytlcjjljmjdmobaa
