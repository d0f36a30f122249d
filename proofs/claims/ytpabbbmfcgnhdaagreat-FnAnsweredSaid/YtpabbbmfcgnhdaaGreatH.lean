/- That each further operation does in the model what the compact one says, part two: lemmas of an own program logic; nothing is claimed here. Conditions: none. -/
import Derived.Test.YtpabbbmfcgnhdaaGreatG
set_option linter.unusedVariables false
namespace Go.AW
variable {cx:Cx} {m:M} {s:St} {a:Act} {w:World} {o:Oper} {K:Act→World→Prop} {Q:Exit→Act→World→Prop}
theorem ZB{h:Hp}{k:IntKind}{z:Int}{u:Value}(H:qK m h (.one<|.d<|.int k z) u):u= .int k z:=by
 obtain⟨_,bs,hr,_⟩:=H;simp only[Rd] at hr;exact hr.1
theorem kO{h:Hp}{b:Bool}{u:Value}(H:qK m h (.one<|.d<|.bool b) u):u= .bool b:=by
 obtain⟨_,bs,hr,_⟩:=H;simp only[Rd] at hr;exact hr.1
theorem Ki{h:Hp}{b:ByteArray}{u:Value}(H:qK m h (.one<|.d<|.str b) u):u= .string b:=by
 obtain⟨_,bs,hr,_⟩:=H;simp only[Rd] at hr;exact hr.1
theorem yS{h:Hp}(k:IntKind)(z:Int):qK m h (.one<|.d<|.int k z) (.int k z):=⟨rfl,[],by simp[Rd],by simp⟩
theorem yG{h:Hp}(b:Bool):qK m h (.one<|.d<|.bool b) (.bool b):=⟨rfl,[],by simp[Rd],by simp⟩
theorem zir(R:zt cx m s a w){d:Nat}{x:Operand}{x':Opd}(ho:o.op= .move x∨o.op= .assign x)(hd:o.dst=some d)(hn:d < cx.n)(hx:zJ x=some x'){out:Out}
  (he:ev s (.mov d x')=some out) (hK:∀m' a' w',zt cx m' (s.app out) a' w'→K a' w'):o.wp cx.P a w K Q:=by
 simp only[ev,Option.some.injEq] at he;subst he;refine qC R hd hn (R.opd hx) ?_ hK;rcases ho with ho|ho<;>simp only[execOp,ho]<;>rfl
theorem zn6(R:zt cx m s a w){d:Nat}{op:BinOp}{t u:TypeId}{x y:Operand}{x' y':Opd}(ho:o.op= .binOp op t x y u)(hd:o.dst=some d)(hn:d < cx.n)(hx:zJ x=some x')(hy:zJ y=some y'){out:Out}
  (he:ev s (.bin d op x' y')=some out) (hK:∀m' a' w',zt cx m' (s.app out) a' w'→K a' w'):o.wp cx.P a w K Q:=by
 simp only[ev,omi] at he;obtain⟨v,hv,rfl⟩:=he;unfold Jl at hv;split at hv
 ·rename_i k p k' q hp hq;have h1:=R.opd hx;have h2:=R.opd hy;rw[hp] at h1;rw[hq] at h2;have h1:=ZB h1;have h2:=ZB h2;have fin:∀(u:Value),qK m w.heap v u→(binOp op t (.int k p)<|.int k' q).run cx.P w= .ok u w→o.wp cx.P a w K Q:=by
   intro u hv hr;refine qC R hd hn hv ?_ hK;have hg:∀x y,(eqGuard op t x y (.int k p)<|.int k' q).run cx.P w= .ok () w:=by
    intro x y;unfold eqGuard;cases op<;>rfl
   simp only[execOp,ho,h1,h2,Sem.run_bind,hg,hr,Result.andThen_ok];rfl
  have sh:zey op k p q=some v→o.wp cx.P a w K Q:=fun hv=>by
   cases op<;>simp only[zey] at hv
   case shl=>split at hv<;>simp only[Option.some.injEq,reduceCtorEq] at hv;rename_i hr;subst hv;exact fin _ (yS _ _) (by simp[binOp,Op.shift,hr])
   case shr=>split at hv<;>simp only[Option.some.injEq,reduceCtorEq] at hv;rename_i hr;subst hv;exact fin _ (yS _ _) (by simp[binOp,Op.shift,hr])
   all_goals (cases hv;done)
  split at hv
  ·rename_i hkk;subst hkk;cases op
   case shl=>exact sh hv
   case shr=>exact sh hv
   case andNot=>exact sh hv
   all_goals simp only[evI] at hv
   case quo=>split at hv<;>simp only[Option.some.injEq,reduceCtorEq] at hv;rename_i hr;subst hv;exact fin _ (yS _ _) (by simp[binOp,Op.intDiv,hr])
   case rem=>split at hv<;>simp only[Option.some.injEq,reduceCtorEq] at hv;rename_i hr;subst hv;exact fin _ (yS _ _) (by simp[binOp,Op.intDiv,hr])
   case eql=>simp only[Option.some.injEq] at hv;subst hv;exact fin _ (yG _) (by simp only[binOp];by_cases e:p=q<;>simp[Op.intCmp,e])
   case neq=>simp only[Option.some.injEq] at hv;subst hv;exact fin _ (yG _) (by simp only[binOp];by_cases e:p=q<;>simp[Op.intCmp,e])
   all_goals first
    |(cases hv;done)
    |(simp only[Option.some.injEq] at hv;subst hv;exact fin _ (yS _ _) (by simp[binOp,Op.intArith,Op.intBits]))
    |(simp only[Option.some.injEq] at hv;subst hv;exact fin _ (yG _) (by simp only[binOp];simp[Op.intCmp];done))
    |(simp only[Option.some.injEq] at hv;subst hv;exact fin _ (yG _) (by by_cases e:p=q<;>simp[binOp,Op.intCmp,e]))
  ·exact sh hv
 ·rename_i p q hp hq;have h1:=R.opd hx;have h2:=R.opd hy;rw[hp] at h1;rw[hq] at h2;have h1:=Ki h1;have h2:=Ki h2;have fin:∀(u:Value),qK m w.heap v u→(binOp op t (.string p)<|.string q).run cx.P w= .ok u w→o.wp cx.P a w K Q:=by
   intro u hv hr;refine qC R hd hn hv ?_ hK;have hg:∀x y,(eqGuard op t x y (.string p)<|.string q).run cx.P w= .ok () w:=by
    intro x y;unfold eqGuard;cases op<;>rfl
   simp only[execOp,ho,h1,h2,Sem.run_bind,hg,hr,Result.andThen_ok];rfl
  cases op<;>simp only[evS] at hv
  all_goals first
   |(cases hv;done)
   |(simp only[Option.some.injEq] at hv;subst hv;exact fin _ (yG _) (by simp[binOp,Op.stringOp]))
 ·cases hv
theorem zh1(R:zt cx m s a w){d:Nat}{op:BinOp}{t u:TypeId}{x y:Operand}{x' y':Opd}{neg:Bool}(ho:o.op= .binOp op t x y u)(hop:op=if neg then .neq else .eql)(ht:cx.P.underlying t=some .bool)(hd:o.dst=some d)(hn:d < cx.n)(hx:zJ x=some x')(hy:zJ y=some y'){out:Out}
  (he:ev s (.beq d neg x' y')=some out) (hK:∀m' a' w',zt cx m' (s.app out) a' w'→K a' w'):o.wp cx.P a w K Q:=by
 simp only[ev] at he;split at he;rotate_left
 ·cases he
 rename_i p q hp hq;simp only[Option.some.injEq] at he;subst he;have h1:=R.opd hx;have h2:=R.opd hy;rw[hp] at h1;rw[hq] at h2;have h1:=kO h1;have h2:=kO h2;refine qC R hd hn (yG _) ?_ hK;have hg:∀x y,(eqGuard op t x y (.bool p)<|.bool q).run cx.P w= .ok () w:=by
  intro x y;unfold eqGuard;cases op<;>rfl
 have he:(Op.equal t (.bool p)<|.bool q).run cx.P w= .ok (p == q) w:=by
  show(Op.equalIn (9999+1) t (.bool p)<|.bool q).run cx.P w=_;rw[Op.equalIn,Sem.run_bind,zp ht];rfl
 cases neg<;>simp only[Bool.false_eq_true,if_true,if_false] at hop<;>subst hop<;>
  simp only[execOp,ho,h1,h2,Sem.run_bind,hg,Result.andThen_ok,binOp,he]<;>rfl
theorem zkX(R:zt cx m s a w){d:Nat}{t:TypeId}{x:Operand}{x':Opd}(ho:o.op= .unOp .not t x)(hd:o.dst=some d)(hn:d < cx.n)(hx:zJ x=some x'){out:Out}
  (he:ev s (.inv d x')=some out) (hK:∀m' a' w',zt cx m' (s.app out) a' w'→K a' w'):o.wp cx.P a w K Q:=by
 simp only[ev] at he;split at he;rotate_left
 ·cases he
 rename_i p hp;simp only[Option.some.injEq] at he;subst he;have h1:=R.opd hx;rw[hp] at h1;have h1:=kO h1;refine qC R hd hn (yG _) ?_ hK;simp only[execOp,ho,h1,Op.unary];rfl
theorem zjN(R:zt cx m s a w){d:Nat}{src dst:TypeId}{k k0:IntKind}{x:Operand}{x':Opd}(ho:o.op= .convert src dst x)(hs:cx.P.underlying src=some (.int k0))(ht:cx.P.underlying dst=some (.int k))(hd:o.dst=some d)(hn:d < cx.n)(hx:zJ x=some x'){out:Out}
  (he:ev s (.conv d k x')=some out) (hK:∀m' a' w',zt cx m' (s.app out) a' w'→K a' w'):o.wp cx.P a w K Q:=by
 simp only[ev] at he;split at he;rotate_left
 ·cases he
 rename_i k1 z hp;simp only[Option.some.injEq] at he;subst he;have h1:=R.opd hx;rw[hp] at h1;have h1:=ZB h1;refine qC R hd hn (yS _ _) ?_ hK;simp only[execOp,ho,h1,convert,Sem.run_bind,zp hs,zp ht,Result.andThen_ok,Conv.intToInt];rfl
theorem zhA(R:zt cx m s a w){d:Nat}{x:Operand}{x':Opd}(ho:o.op= .nilCheck x)(hd:o.dst=some d)(hn:d < cx.n)(hx:zJ x=some x'){out:Out}
  (he:ev s (.nilchk d x')=some out) (hK:∀m' a' w',zt cx m' (s.app out) a' w'→K a' w'):o.wp cx.P a w K Q:=by
 simp only[ev] at he;split at he;rotate_left
 ·cases he
 rename_i p hp;simp only[Option.some.injEq] at he;subst he;have h1:=R.opd hx;rw[hp] at h1;refine qC R hd hn h1 ?_ hK;obtain⟨_,h2⟩:=h1;have:∃ad,a.eval x= .pointer (some ad):=by
  cases p with
  |nm n i j=>obtain⟨f,b,_,_,hv⟩:=h2;exact⟨_,hv⟩
  |bd cs j=>obtain⟨b,off,cells,T,fz,bs,hv,_⟩:=h2;exact⟨_,hv⟩
 obtain⟨ad,had⟩:=this;simp only[execOp,ho,had];rfl
theorem zkc(R:zt cx m s a w){d:Nat}{t:TypeId}{x i:Operand}{x' i':Opd}(ho:o.op= .index t x i)(ht:cx.P.underlying t=some .string)(hd:o.dst=some d)(hn:d < cx.n)(hx:zJ x=some x')(hi:zJ i=some i'){out:Out}
  (he:ev s (.sidx d x' i')=some out) (hK:∀m' a' w',zt cx m' (s.app out) a' w'→K a' w'):o.wp cx.P a w K Q:=by
 simp only[ev] at he;split at he;rotate_left
 ·cases he
 rename_i b k z hp hq;simp only[omi] at he;obtain⟨c,hc,rfl⟩:=he;have h1:=R.opd hx;have h2:=R.opd hi;rw[hp] at h1;rw[hq] at h2;have h1:=Ki h1;have h2:=ZB h2;refine qC R hd hn (yS _ _) ?_ hK;simp only[execOp,ho,h1,h2,Instr.index,asIntOf,Sem.run_bind,zp ht,Result.andThen_ok,Sem.run_pure];split at hc
 ·rename_i hz;simp only[hz,if_true,hc];rfl
 ·cases hc
theorem zko(R:zt cx m s a w){d:Nat}{mx:Bool}{ts:Array TypeId}{x y:Operand}{x' y':Opd}(ho:o.op= .call {callee:= .builtin (if mx then .max else .min),args:=#[x,y],argTypes:=ts})(hd:o.dst=some d)(hn:d < cx.n)(hx:zJ x=some x')(hy:zJ y=some y'){out:Out}
  (he:ev s (.mm d mx x' y')=some out) (hK:∀m' a' w',zt cx m' (s.app out) a' w'→K a' w'):o.wp cx.P a w K Q:=by
 simp only[ev] at he;split at he;rotate_left
 ·cases he
 rename_i k p k' q hp hq;simp only[Option.some.injEq] at he;subst he;have h1:=R.opd hx;have h2:=R.opd hy;rw[hp] at h1;rw[hq] at h2;have h1:=ZB h1;have h2:=ZB h2;refine qC R hd hn (yS _ _) ?_ hK;cases mx<;>simp[execOp,ho,resolve,h1,h2,invoke,builtin,Builtin.max_,Builtin.min_,Builtin.max2,Builtin.min2]
theorem zkn(R:zt cx m s a w){d:Nat}{f:FuncId}{caps:Array Operand}{caps':List Opd}(ho:o.op= .makeFunc (.func f) #[] caps)(hd:o.dst=some d)(hn:d < cx.n)(hx:caps.toList.mapM zJ=some caps'){out:Out}
  (he:ev s (.mkfn d f caps')=some out) (hK:∀m' a' w',zt cx m' (s.app out) a' w'→K a' w'):o.wp cx.P a w K Q:=by
 simp only[ev,omi] at he;obtain⟨ps,hps,rfl⟩:=he;have key:∀(cs:List Operand) (cs':List Opd) (ps:List Ptr),cs.mapM zJ=some cs'→cs'.mapM (fun x=>match s.ev x with| .one (.ptr p)=>some p|_=>none)=some ps→zl (zck m w.heap) ps (cs.map a.eval):=by
  intro cs;induction cs with
  |nil=>intro cs' ps h1 h2;simp at h1;subst h1;simp at h2;subst h2;trivial
  |cons c cs ih=>
   intro cs' ps h1 h2;simp only[List.mapM_cons,Option.pure_def,Option.bind_eq_bind,obi] at h1;obtain⟨c',hc,cs'',hcs,he⟩:=h1;cases he;simp only[List.mapM_cons,Option.pure_def,Option.bind_eq_bind,obi] at h2;obtain⟨p,hp,ps',hps,he⟩:=h2;cases he;refine⟨?_,ih _ _ hcs hps⟩;have:=R.opd hc;split at hp
   ·rename_i q hq;cases hp;rw[hq] at this;exact this.2
   ·cases hp
 refine qC R hd hn (v:= .one (.fn f ps)) (u:= .func (.func f) #[] (caps.map a.eval)) ⟨rfl,_,rfl,by simpa using key _ _ _ hx hps⟩ ?_ hK;simp[execOp,ho,Instr.makeFunc]
theorem Qg{P:Program}{b off n:Nat}{f:Field}{i:TypeInfo}(hi:P.info? f.type=some i)(hn:i.size=n)(h0:n≠0):(fieldPlace ⟨b,off,none⟩ f).run P w= .ok ⟨b,off+f.offset,none⟩ w:=by
 simp only[fieldPlace,Sem.run_bind,qt hi,Result.andThen_ok,hn,h0,if_false,Qp];rfl
theorem zi1(R:zt cx m s a w){d fi:Nat}{t:TypeId}{fs:Array Field}{f:Field}{n:Nat}{x:Operand}{x':Opd}(ho:o.op= .fieldAddr t x fi)(ht:cx.P.underlying t=some (.struct fs))(hf:fs[fi]? =some f)(hn0:szP cx.P f.type=some n)(h0:n≠0)(hd:o.dst=some d)(hn:d < cx.n)(hx:zJ x=some x'){out:Out}
  (he:ev s (.faddr d f.offset x')=some out) (hK:∀m' a' w',zt cx m' (s.app out) a' w'→K a' w'):o.wp cx.P a w K Q:=by
 have h1:=R.opd hx;simp only[szP,omi] at hn0;obtain⟨i,hi,hin⟩:=hn0;simp only[ev] at he;split at he
 ·rename_i k ei j hp;simp only[Option.some.injEq] at he;subst he;rw[hp] at h1;obtain⟨_,g,b,hg,hb,hv⟩:=h1;refine qC R hd hn (v:= .one (.ptr<|.nm k ei (j+f.offset))) (u:= .pointer (some ⟨b,ei * g.sz+(j+f.offset),none⟩)) ⟨rfl,g,b,hg,hb,rfl⟩ ?_ hK;simp only[execOp,ho,Instr.fieldAt,hv,Instr.sureAddr,Sem.run_bind,Sem.run_pure,Result.andThen_ok,zp ht,hf,Qg hi hin h0,Nat.add_assoc]
 ·rename_i cs j hp;simp only[Option.some.injEq] at he;subst he;rw[hp] at h1;obtain⟨_,b,off,cells,T,fz,bs,hv,hh,hr,hb,hbs⟩:=h1;refine qC R hd hn (v:= .one (.ptr<|.bd cs (j+f.offset))) (u:= .pointer (some ⟨b,off+(j+f.offset),none⟩)) ⟨rfl,b,off,cells,T,fz,bs,rfl,hh,hr,hb,hbs⟩ ?_ hK;simp only[execOp,ho,Instr.fieldAt,hv,Instr.sureAddr,Sem.run_bind,Sem.run_pure,Result.andThen_ok,zp ht,hf,Qg hi hin h0,Nat.add_assoc]
 ·rename_i k cs hp;split at he;rotate_left
  ·cases he
  rename_i hle;simp only[Option.some.injEq] at he;subst he;rw[hp] at h1;obtain⟨_,g,hg,bs,hr,hbs⟩:=h1;simp only[Rd] at hr;obtain⟨b,off,cells,T,fz,bs',hv,hh,rfl,_,hr⟩:=hr;obtain⟨b1,b2,rfl,_,hr2⟩:=hr.split f.offset;have e:(((cells.toList.drop off).take cs.length).drop f.offset)=(cells.toList.drop (off+f.offset)).take (cs.drop f.offset).length:=by
   rw[List.drop_take,List.drop_drop,List.length_drop]
  rw[e] at hr2;refine qC R hd hn (v:= .one (.sub k<|.ptr<|cs.drop f.offset)) (u:= .pointer (some ⟨b,off+f.offset,none⟩)) ⟨rfl,g,hg,b::b2,?_,fun c hc=>hbs c (by
   simp only[List.mem_cons,List.mem_append] at hc ⊢;rcases hc with hc|hc
   ·exact .inl hc
   ·exact .inr (.inr hc))⟩ ?_ hK
  ·simp only[Rd];exact⟨b,off+f.offset,cells,T,fz,b2,rfl,hh,rfl,(fun h=>by cases h),hr2⟩
  ·simp only[execOp,ho,Instr.fieldAt,hv,Instr.sureAddr,Sem.run_bind,Sem.run_pure,Result.andThen_ok,zp ht,hf,Qg hi hin h0]
 ·cases he
theorem zi2(R:zt cx m s a w){d fi:Nat}{t:TypeId}{fs:Array Field}{f:Field}{ag:Option Nat}{x:Operand}{x':Opd}(ho:o.op= .field t x fi)(ht:cx.P.underlying t=some (.struct fs))(hf:fs[fi]? =some f)(hag:zfQ cx.P f.type=some ag)(hd:o.dst=some d)(hn:d < cx.n)(hx:zJ x=some x'){out:Out}
  (he:ev s (.field d f.offset ag x')=some out) (hK:∀m' a' w',zt cx m' (s.app out) a' w'→K a' w'):o.wp cx.P a w K Q:=by
 have h1:=R.opd hx;simp only[zfQ,obi] at hag;obtain⟨td,htd,hag⟩:=hag;simp only[ev] at he;split at he;rotate_left
 ·cases he
 rename_i cs hcs;rw[hcs] at h1;obtain⟨vs,hv,hall⟩:=h1;cases hA:KI td with
 |true=>
  rw[hA] at hag;simp only[if_true,omi,szP] at hag;obtain⟨n,⟨i,hi,hin⟩,rfl⟩:=hag;simp only at he;split at he<;>simp only[Option.some.injEq,reduceCtorEq] at he;subst he;refine qC R hd hn (v:= .agg ((cs.drop f.offset).take n)) (u:= .agg (vs.extract f.offset (f.offset+n))) ⟨_,rfl,?_⟩ ?_ hK
  ·have:=zl.take n (zl.drop f.offset hall);have e:(vs.extract f.offset (f.offset+n)).toList=(vs.toList.drop f.offset).take n:=by
    simp[List.extract_eq_take_drop]
   rw[e];exact this
  ·simp only[execOp,ho,Instr.field,hv,asAgg,part,Sem.run_bind,Sem.run_pure,Result.andThen_ok,zp ht,hf,QB htd,hA,if_true,qt hi,hin]
 |false=>
  rw[hA] at hag;simp only[Bool.false_eq_true,if_false,Option.some.injEq] at hag;subst hag;simp only[omi] at he;obtain⟨c,hc,rfl⟩:=he;obtain⟨u,hu,hrel⟩:=hall.at hc;have hu':vs[f.offset]? =some u:=by simpa using hu
  refine qC R hd hn (v:= .one c) (u:=u) hrel ?_ hK;simp only[execOp,ho,Instr.field,hv,asAgg,part,Sem.run_bind,Sem.run_pure,Result.andThen_ok,zp ht,hf,QB htd,hA,Bool.false_eq_true,if_false,hu']
theorem zlQ(R:zt cx m s a w){d i:Nat}{x:Operand}{x':Opd}(ho:o.op= .extract x i)(hd:o.dst=some d)(hn:d < cx.n)(hx:zJ x=some x'){out:Out}
  (he:ev s (.ext d x' i)=some out) (hK:∀m' a' w',zt cx m' (s.app out) a' w'→K a' w'):o.wp cx.P a w K Q:=by
 have h1:=R.opd hx;simp only[ev] at he;split at he;rotate_left
 ·cases he
 rename_i vs hvs;simp only[omi] at he;obtain⟨v,hv,rfl⟩:=he;rw[hvs] at h1;obtain⟨us,hu,hall⟩:=h1;obtain⟨u,hu1,hrel⟩:=hall.at hv;have hu':us[i]? =some u:=by simpa using hu1
 refine qC R hd hn (v:=v) (u:=u) ?_ ?_ hK
 ·cases v with
  |top=>trivial
  |one c=>exact hrel
  |agg cs=>exact hrel
  |tup _=>exact hrel.elim
 ·simp only[execOp,ho,Instr.extract,hu,hu'];rfl
end Go.AW
