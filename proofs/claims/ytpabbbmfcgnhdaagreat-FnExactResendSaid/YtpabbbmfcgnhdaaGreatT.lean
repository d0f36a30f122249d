/- Regions: operations in order, and operations that run in whatever order their edges allow. Lemmas. Conditions: none. -/
import Derived.Test.YtpabbbmfcgnhdaaGreatS
set_option linter.unusedVariables false
namespace Go.AW
structure GOp where
 g:Option (Nat×Bool)
 o:IOp
def opA(P:Program)(s:St)(o:IOp)(K:Out→Prop):Prop:=match o with
 | .callv d f args=>callB P s d (s.ev f) (args.map s.ev) K
 |o=>Ym (ev s o) K
def xo(o:IOp):Out:=⟨[],o.dst.map fun d=>(d,.tup []),[]⟩
def jt(P:Program)(s:St)(g:GOp)(K:Out→Prop):Prop:=match g.g with
 |none=>opA P s g.o K
 |some (t,want)=>match s.sl t with
   | .one (.d<|.bool b)=>if b=want then opA P s g.o K else K (xo g.o)
   | .tup []=>K (xo g.o)
   |_=>False
def toG(P:Program)(n:Nat)(ops:Array Oper)(o:Oper):Option GOp:=(Yh P n o).bind fun io=>match o.guard with
 |none=>some ⟨none,io⟩
 |some (j,want)=>((ops[j]?).bind (·.dst)).map fun t=>⟨some (t,want),io⟩
variable {cx:Cx} {m:M} {s:St} {a:Act} {w:World} {o:Oper} {K:Act→World→Prop} {Q:Exit→Act→World→Prop} {ops:Array Oper}
theorem zfW{P:Program}{n:Nat}{c:Call}{io:IOp}(h:yq P n o c=some io):o.dst=io.dst∧∀d,io.dst=some d→d < n:=by
 unfold yq at h;split at h
 ·simp only[obi,omi] at h;obtain⟨x,hx0,d,hd,t,ht,st,hst,x',hx,rfl⟩:=h;exact⟨(zm hd).1,fun k hk=>by cases hk;exact(zm hd).2⟩
 ·simp only[obi] at h;obtain⟨xy,hxy,tu,htu,h⟩:=h;split at h;rotate_left
  ·simp only[obi] at h;obtain⟨kn,hkn,d,hd,e,he',i,hi,z,hz,zs,hzs,h⟩:=h;split at h;rotate_left
   ·cases h
   simp only[obi,omi] at h;obtain⟨x',hx,y',hy,rfl⟩:=h;exact⟨(zm hd).1,fun k hk=>by cases hk;exact(zm hd).2⟩
  simp only[obi] at h;obtain⟨d,hd,e,he',i,hi,z,hz,h⟩:=h;split at h;rotate_left
  ·cases h
  simp only[obi,omi] at h;obtain⟨x',hx,y',hy,rfl⟩:=h;exact⟨(zm hd).1,fun k hk=>by cases hk;exact(zm hd).2⟩
 ·simp only[obi,omi] at h;obtain⟨xy,hxy,d,hd,x',hx,y',hy,rfl⟩:=h;exact⟨(zm hd).1,fun k hk=>by cases hk;exact(zm hd).2⟩
 ·simp only[obi,omi] at h;obtain⟨xy,hxy,d,hd,x',hx,y',hy,rfl⟩:=h;exact⟨(zm hd).1,fun k hk=>by cases hk;exact(zm hd).2⟩
 ·simp only[obi] at h;obtain⟨x,hx0,t,ht,e,he',i,hi,z,hz,zs,hzs,h⟩:=h;split at h;rotate_left
  ·cases h
  rename_i hc;simp only[omi] at h;obtain⟨x',hx,rfl⟩:=h;exact⟨hc.2.2,fun k hk=>by cases hk⟩
 ·simp only[obi,omi] at h;obtain⟨x,hx0,t,ht,d,hd,e,he',x',hx,rfl⟩:=h;exact⟨(zm hd).1,fun k hk=>by cases hk;exact(zm hd).2⟩
 ·simp only[obi,omi] at h;obtain⟨xy,hxy,t,ht,d,hd,e,he',i,hi,x',hx,y',hy,rfl⟩:=h;exact⟨(zm hd).1,fun k hk=>by cases hk;exact(zm hd).2⟩
 ·simp only[obi,omi] at h;obtain⟨d,hd,f',hf,xs',hxs,rfl⟩:=h;exact⟨(zm hd).1,fun k hk=>by cases hk;exact(zm hd).2⟩
 ·cases h
theorem zeE{P:Program}{n:Nat}{io:IOp}(h:Yh P n o=some io):o.dst=io.dst∧∀d,io.dst=some d→d < n:=by
 have fin:∀d,j0 n o=some d→∀io':IOp,io'.dst=some d→o.dst=io'.dst∧∀d,io'.dst=some d→d < n:=fun d hd io' hio=>⟨(zm hd).1.trans hio.symm,fun k hk=>by
  rw[hio] at hk;cases hk;exact(zm hd).2⟩
 unfold Yh at h;split at h
 case h_9=>
  split at h;rotate_left
  ·cases h
  rename_i hd;simp only[obi,omi] at h;obtain⟨k,hk,x',hx,v',hv,rfl⟩:=h;exact⟨hd,fun k hk=>by cases hk⟩
 case h_23=>
  rw[obi] at h;obtain⟨_,hd,h⟩:=h;cases h;unfold zjy at hd;by_cases hn:o.dst=none
  ·exact⟨hn,fun k hk=>by cases hk⟩
  ·rw[if_neg hn] at hd;cases hd
 case h_24=>exact zfW h
 case h_25=>cases h
 all_goals
  rw[obi] at h;obtain⟨d,hd,h⟩:=h;refine fin d hd io ?_
  repeat' (first|(rw[obi] at h;obtain⟨_,_,h⟩:=h)|(rw[omi] at h;obtain⟨_,_,rfl⟩:=h;rfl)|(split at h)|(cases h;done)|(cases h;rfl))
theorem Ju{P:Program}{n:Nat}{g:GOp}(h:toG P n ops o=some g):Yh P n o=some g.o∧(g.g=none→o.guard=none)∧∀t want,g.g=some (t,want)→∃j,o.guard=some (j,want)∧(ops[j]?).bind (·.dst)=some t:=by
 unfold toG at h;rw[obi] at h;obtain⟨io,hio,h⟩:=h;split at h
 ·rename_i hg;cases h;exact⟨hio,fun _=>hg,fun _ _ h=>by cases h⟩
 ·rename_i j want hg;rw[omi] at h;obtain⟨t,ht,rfl⟩:=h;exact⟨hio,(fun h=>by cases h),fun t' w' h=>by cases h;exact⟨j,hg,ht⟩⟩
theorem zdT(R:zH cx m s a w){io:IOp}(h:Yh cx.P cx.n o=some io){K':Out→Prop}(hA:opA cx.P s io K')(hK:∀out,K' out→∀m' a' w',zH cx m' (s.app out) a' w'→K a' w'):o.wp cx.P a w K Q:=by
 unfold opA at hA;split at hA
 ·rename_i d f args;have key:∃c:Call,o.op= .call c∧yq cx.P cx.n o c=some (.callv d f args):=by
   unfold Yh at h;split at h
   case h_24 c hop=>exact⟨c,hop,h⟩
   case h_25=>cases h
   case h_9=>
    split at h;rotate_left
    ·cases h
    simp only[obi,omi] at h;obtain⟨_,_,_,_,_,_,h⟩:=h;cases h
   all_goals
    rw[obi] at h;obtain⟨d,hd,h⟩:=h
    repeat' (first|(rw[obi] at h;obtain⟨_,_,h⟩:=h)|(rw[omi] at h;obtain⟨_,_,h⟩:=h;cases h;done)|(split at h)|(cases h;done))
  obtain⟨c,hop,hc⟩:=key;obtain⟨callee,xs,ts⟩:=c;unfold yq at hc;split at hc
  case h_8 f0 hf0=>
   simp only at hf0;subst hf0;simp only[obi,omi] at hc;obtain⟨d',hd,f',hf,xs',hxs,hc⟩:=hc;cases hc;exact zhq R hop (zm hd).1 (zm hd).2 hf hxs hA hK
  case h_9=>cases hc
  case h_5=>
   simp only[obi] at hc;obtain⟨_,_,_,_,_,_,_,_,_,_,_,_,hc⟩:=hc;split at hc
   ·simp only[omi] at hc;obtain⟨_,_,hc⟩:=hc;cases hc
   ·cases hc
  case h_2=>
   rw[obi] at hc;obtain⟨_,_,hc⟩:=hc;rw[obi] at hc;obtain⟨_,_,hc⟩:=hc;split at hc;rotate_left
   ·simp only[obi] at hc;obtain⟨_,_,_,_,_,_,_,_,_,_,_,_,hc⟩:=hc;split at hc
    ·simp only[obi,omi] at hc;obtain⟨_,_,_,_,hc⟩:=hc;cases hc
    ·cases hc
   simp only[obi] at hc;obtain⟨_,_,_,_,_,_,_,_,hc⟩:=hc;split at hc;rotate_left
   ·cases hc
   simp only[obi,omi] at hc;obtain⟨_,_,_,_,hc⟩:=hc;cases hc
  all_goals
   simp only[obi,omi] at hc;obtain⟨_,_,hc⟩:=hc
   repeat' (obtain⟨_,_,hc⟩:=hc)
   first|(cases hc;done)|skip
 ·rw[qM] at hA;obtain⟨out,he,hk⟩:=hA;exact zhI R h he (hK out hk)
theorem xe(R:zH cx m s a w){g:GOp}(h:toG cx.P cx.n ops o=some g){K':Out→Prop}(hA:jt cx.P s g K')(hK:∀out,K' out→∀m' a' w',zH cx m' (s.app out) a' w'→K a' w'):
  if Region.wanted o (yielded ops a.tmps) then o.wp cx.P a w K Q else K (a.put o.dst undef) w:=by
 obtain⟨h1,h2,h3⟩:=Ju h;unfold jt at hA;split at hA
 ·rename_i hg;rw[if_pos (by simp[Region.wanted,h2 hg])];exact zdT R h1 hA hK
 ·rename_i t want hg;obtain⟨j,hj,ht⟩:=h3 t want hg;split at hA
  ·rename_i b hb;have hv:=R.sl t;rw[hb] at hv;have hv:=kz hv;have ht2:a.tmps[t]? =some (.bool b):=by
    rw[Array.getD_eq_getD_getElem?] at hv;cases hx:a.tmps[t]? with
    |none=>rw[hx] at hv;simp[undef] at hv
    |some x=>rw[hx] at hv;simpa using hv
   have hy:yielded ops a.tmps j=some b:=by
    unfold yielded;rw[ht];simp[ht2]
   have hw:Region.wanted o (yielded ops a.tmps)=decide (b=want):=by
    simp only[Region.wanted,hj,hy];cases b<;>cases want<;>rfl
   rw[hw];by_cases hbw:b=want
   ·rw[if_pos (by simp[hbw])];rw[if_pos hbw] at hA;exact zdT R h1 hA hK
   ·rw[if_neg (by simp[hbw])];rw[if_neg hbw] at hA;obtain⟨hd1,hd2⟩:=zeE h1;refine hK _ hA m _ _ ?_;rw[hd1];unfold xo;cases hdst:g.o.dst with
    |none=>exact R
    |some d=>exact R.set (hd2 d hdst) ⟨#[],rfl,trivial⟩
  ·rename_i hb;have hv:=R.sl t;rw[hb] at hv;obtain⟨us,hv,hall⟩:=hv;have hy:yielded ops a.tmps j=none:=by
    unfold yielded;rw[ht];simp only[Option.bind_some];rw[Array.getD_eq_getD_getElem?] at hv;cases hx:a.tmps[t]? with
    |none=>rfl
    |some x=>
     rw[hx] at hv;simp only[Option.getD_some] at hv;rw[hv]
   have hw:Region.wanted o (yielded ops a.tmps)=false:=by
    simp only[Region.wanted,hj,hy];rfl
   rw[hw,if_neg (by simp)];obtain⟨hd1,hd2⟩:=zeE h1;refine hK _ hA m _ _ ?_;rw[hd1];unfold xo;cases hdst:g.o.dst with
   |none=>exact R
   |some d=>exact R.set (hd2 d hdst) ⟨#[],rfl,trivial⟩
  ·cases hA
def zcH(P:Program):List GOp→St→(St→Prop)→Prop
 |[],s,Q=>Q s
 |g::gs,s,Q=>jt P s g fun out=>zcH P gs (s.app out) Q
theorem KI:∀{l:List Oper} {gs:List GOp} {m:M} {s:St} {a:Act} {w:World} {Q':St→Prop},l.mapM (toG cx.P cx.n ops)=some gs→zH cx m s a w→zcH cx.P gs s Q'→
  (∀s',Q' s'→∀m' a' w',zH cx m' s' a' w'→Q .normal a' w')→wpList cx.P ops Q l a w
 |[],gs,m,s,a,w,Q',hm,R,h,hQ=>by
  simp at hm;subst hm;exact hQ s h m a w R
 |o::l,gs,m,s,a,w,Q',hm,R,h,hQ=>by
  simp only[List.mapM_cons,Option.pure_def,Option.bind_eq_bind,obi] at hm;obtain⟨g,hg,gs',hgs,he⟩:=hm;cases he;have:=xe (Q:=Q) (K:=wpList cx.P ops Q l) R hg h (fun out hk m' a' w' R'=>KI hgs R' hk hQ);unfold wpList;split
  ·rename_i hw;rw[if_pos hw] at this;exact .inl this
  ·rename_i hw;rw[if_neg hw] at this;exact this
end Go.AW
