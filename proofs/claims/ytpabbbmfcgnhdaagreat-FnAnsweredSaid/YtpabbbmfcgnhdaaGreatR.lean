/- A call by a contract, in a walk. Lemmas. Conditions: none. -/
import Derived.Test.YtpabbbmfcgnhdaaGreatQ
set_option linter.unusedVariables false
namespace Go.AW
variable {cx:Cx} {m:M} {s:St} {a:Act} {w:World} {o:Oper} {K:Act→World→Prop} {Q:Exit→Act→World→Prop}
def X0:V→Option (FuncId×List V)
 | .one (.fn g caps)=>some (g,caps.map fun p=> .one (.ptr p))
 | .one (.d<|.fn g ds)=>some (g,ds.map fun d=> .one (.d d))
 |_=>none
def zcA:D→V
 | .agg cs=> .agg (cs.map .d)
 |x=> .one (.d x)
def XK(rs:List D):V:=match rs with
 |[r]=>zcA r
 |rs=> .tup (rs.map zcA)
def Ptr.bare:Ptr→Bool
 | .bd _ _=>true
 |_=>false
def C.bare:C→Bool
 | .sl _ _ _| .sub _ _=>false
 | .ptr p=>p.bare
 | .fn _ caps=>caps.all Ptr.bare
 |_=>true
def V.bare:V→Bool
 | .one c=>c.bare
 | .agg cs=>cs.all C.bare
 |_=>false
def lent(ds:List D):List Ar:=ds.map fun d=>⟨d,.b⟩
def callB0(P:Program)(s:St)(d:Nat)(f:V)(vs:List V)(K:Out→Prop):Prop:=
 Qb (X0 f) fun c=>Qb ((vs++c.2).mapM<|vD s) fun ds=>∃(o md:Bool) (rs:List D),Fn P c.1 (lent ds) o rs∧
  if md then o=true∧(((d * 64+63)::(ZP (d * 64) rs).2.map (·.1)).all fun n=>n / 64 == d)=true∧qp s ((d * 64+63)::(ZP (d * 64) rs).2.map (·.1))∧K ⟨[],some (d,(ZP (d * 64) rs).1),(ZP (d * 64) rs).2⟩
  else(o=true∨(vs++c.2).all V.bare=true)∧K ⟨[],some (d,XK rs),[]⟩
structure zIq(w w':World):Prop where
 os:w'.os=w.os
 tape:w'.tape=w.tape
 output:w'.output=w.output
 size:w.heap.size≤w'.heap.size
 kept:∀b,b < w.heap.size→w'.heap[b]? =w.heap[b]?
def VFn(P:Program)(k:FuncId)(vs:List V)(B:bh)(u:V):Prop:=
 callable P k=true∧∀(cx:Cx) (m:M) (w:World) (as:List Value),(∀p∈B,zT cx m w.heap p.1 (some p.2)<|m.inf p.1)→zl (qK m w.heap) vs as→
  Calls P k as.toArray w (fun e w'=>∃v,e= .returned v∧zIq w w'∧(Ext [] m w.heap m w'.heap→qK m w'.heap u v))
def callB(P:Program)(s:St)(d:Nat)(f:V)(vs:List V)(K:Out→Prop):Prop:=
 callB0 P s d f vs K∨∃(k:FuncId) (B:bh) (u:V),X0 f=some (k,[])∧(∀p∈B,s.hp p.1=some p.2)∧VFn P k vs B u∧K ⟨[],some (d,u),[]⟩
theorem y0:∀(ds:List D) (bss:List (List Nat)),qR (lent ds) bss=[]
 |[],_=>rfl
 |_::_,[]=>rfl
 |d::ds,b::bs=>by simp[lent,qR,Md.owned];exact y0 ds bs
theorem zgZ:∀(ds:List D) (bss:List (List Nat)),∀b∈ZZ (lent ds) bss,b∈bss.flatten
 |[],_,b,hb=>by simp[lent,ZZ] at hb
 |_::_,[],b,hb=>by simp[lent,ZZ] at hb
 |d::ds,c::bs,b,hb=>by
  simp only[lent,List.map_cons,ZZ,Md.owned,Bool.false_eq_true,if_false,List.mem_append] at hb;simp only[List.flatten_cons,List.mem_append];exact hb.imp id (zgZ ds bs b)
theorem zeO(R:zt cx m s a w):∀{vs:List V} {us:List Value} {ds:List D},zl (qK m w.heap) vs us→vs.mapM (vD s)=some ds→
  ∃bss,kC w.heap (lent ds) us bss∧∀b∈bss.flatten,m.own b=none∨∃n∈vs.flatMap (KW s),m.own b=some n
 |[],[],ds,_,h=>by simp at h;subst h;exact⟨[],trivial,by simp⟩
 |v::vs,u::us,ds,H,h=>by
  simp only[List.mapM_cons,Option.pure_def,Option.bind_eq_bind,obi] at h;obtain⟨x,hx,xs',hxs,he⟩:=h;cases he;obtain⟨b1,h1,o1⟩:=zdH R H.1 hx;obtain⟨bs,h2,o2⟩:=zeO R H.2 hxs;refine⟨b1::bs,⟨h1,h2⟩,fun b hb=> ?_⟩;simp only[List.flatten_cons,List.mem_append] at hb;rcases hb with hb|hb
  ·exact(o1 b hb).imp id fun⟨n,hn,e⟩=>⟨n,by simp only[List.flatMap_cons,List.mem_append];exact .inl hn,e⟩
  ·exact(o2 b hb).imp id fun⟨n,hn,e⟩=>⟨n,by simp only[List.flatMap_cons,List.mem_append];exact .inr hn,e⟩
 |[],_::_,_,H,_=>H.elim
 |_::_,[],_,H,_=>H.elim
theorem zjb(s:St){v:V}(h:v.bare=true):KW s v=[]:=by
 have hp:∀p:Ptr,p.bare=true→zds s p=[]:=fun p hp=>by cases p<;>simp_all [Ptr.bare,zds]
 have hc0:∀c:C,c.bare=true→c.uses0=[]:=fun c hc=>by cases c<;>simp_all [C.bare,C.uses0]
 cases v with
 |top=>rfl
 |tup _=>rfl
 |agg cs=>
  simp only[KW,List.flatMap_eq_nil_iff];intro c hc;exact hc0 c (List.all_eq_true.1 h c hc)
 |one c=>
  have hb:c.bare=true:=h;cases c with
  |ptr p=>exact hp p h
  |fn f caps=>
   simp only[KW,zjR,List.flatMap_eq_nil_iff];intro p hpm;exact hp p (List.all_eq_true.1 h p hpm)
  |_=>exact hc0 _ hb
theorem Xb{h:Hp}{f:V}{u:Value}{c:FuncId×List V}(H:qK m h f u)(hc:X0 f=some c):∃us:Array Value,u= .func (.func c.1) #[] us∧zl (qK m h) c.2 us.toList:=by
 unfold X0 at hc;split at hc
 ·rename_i g caps;cases hc;obtain⟨h1,us,rfl,hall⟩:=H;refine⟨us,rfl,zl.map _ (fun p _ v hp=>⟨?_,hp⟩) hall⟩;cases p with
  |nm n i j=>obtain⟨_,_,_,_,rfl⟩:=hp;rfl
  |bd cs j=>obtain⟨_,_,_,_,_,_,rfl,_⟩:=hp;rfl
 ·rename_i g ds;cases hc;obtain⟨h1,bs,hr,hb⟩:=H;simp only[Rd] at hr;obtain⟨us,rfl,hr⟩:=hr;refine⟨us,rfl,?_⟩;have:=Xz hr hb;have key:∀{ds:List D} {vs:List Value},zl (qE m h) (ds.map C.d) vs→zl (qK m h) (ds.map fun d=>V.one (.d d)) vs:=by
   intro ds;induction ds with
   |nil=>intro vs H;cases vs with
    |nil=>trivial
    |cons _ _=>exact H.elim
   |cons d ds ih=>intro vs H;cases vs with
    |nil=>exact H.elim
    |cons v vs=>exact⟨H.1,ih H.2⟩
  exact key this
 ·cases hc
theorem kT(R:zt cx m s a w):∀{xs:List Operand} {ys:List Opd},xs.mapM zJ=some ys→zl (qK m w.heap) (ys.map s.ev) (xs.map a.eval)
 |[],ys,h=>by simp at h;subst h;trivial
 |x::xs,ys,h=>by
  simp only[List.mapM_cons,Option.pure_def,Option.bind_eq_bind,obi] at h;obtain⟨y,hy,ys',hys,he⟩:=h;cases he;exact⟨R.opd hy,kT R hys⟩
theorem zt.after(R:zt cx m s a w){w':World}{res:Nat}{br:List Nat}(h1:w'.os=w.os)(h2:w'.tape=w.tape)(h3:w'.output=w.output)(h4:w.heap.size≤w'.heap.size)(h5:∀b,b < w.heap.size→w'.heap[b]? =w.heap[b]?)
  (hbr:∀b∈br,w.heap.size≤b∧b < w'.heap.size):
  zt cx ⟨m.inf,fun b=>if b∈br then some res else m.own b⟩ s a w'∧Ext [] m w.heap ⟨m.inf,fun b=>if b∈br then some res else m.own b⟩ w'.heap:=by
 have E:Ext [] m w.heap ⟨m.inf,fun b=>if b∈br then some res else m.own b⟩ w'.heap:=by
  refine⟨fun _ _ _ h=>h,fun b x y z hb ho=>⟨?_,h5 b<|zH hb⟩,fun b x y z j g hb _ _ ho _=>⟨?_,h5 b<|zH hb⟩⟩
  ·have:=zH hb;simp only;rw[if_neg (fun e=>by have:=(hbr b e).1;omega)];exact ho
  ·have:=zH hb;simp only;rw[if_neg (fun e=>by have:=(hbr b e).1;omega)];exact ho
 refine⟨⟨R.size,R.defers,fun t=>E.ver0 (R.sl t),fun j=>zT.ext E (fun b hb x hx=>⟨?_,h5 b<|zH hx⟩) O (R.hp j),⟨fun b j hb=> ?_,fun b hb hW=> ?_⟩,?_,fun t=>E.ver0 (R.gh t)⟩,E⟩
 ·have:=zH hx;simp only;rw[if_neg (fun e=>by have:=(hbr b e).1;omega)];exact hb
 ·simp only at hb;split at hb
  ·rename_i h;exact(hbr b h).2
  ·have:=R.own.1 b j hb;omega
 ·have:=R.fr.size;simp only;rw[if_neg (fun e=>by have:=(hbr b e).1;omega)];exact R.own.2 b hb hW
 ·have F:=R.fr;exact⟨h1.trans F.os,h2.trans F.tape,h3.trans F.output,by have:=F.size;omega,fun b hb hW=>by rw[h5 b (by have:=F.size;omega)];exact F.kept b hb hW⟩
theorem K7.there{o:Bool}{h:Hp}:∀{rs:List D} {vs:List Value} {bs:List (List Nat)},K7 o h rs vs bs→∀b∈bs.flatten,∃c T f,h[b]? =some (.cells c T f)
 |[],[],[],_,b,hb=>by simp at hb
 |r::rs,v::vs,b1::bs,H,b,hb=>by
  simp only[List.flatten_cons,List.mem_append] at hb;exact hb.elim (Rd.there _ _ _ H.1 b) (K7.there H.2 b)
 |[],[],_::_,H,_,_=>H.elim
 |[],_::_,_,H,_,_=>H.elim
 |_::_,[],_,H,_,_=>H.elim
 |_::_,_::_,[],H,_,_=>H.elim
theorem Res.there{o:Bool}{h:Hp}{rs:List D}{v:Value}{bs:List (List Nat)}(H:Res o h rs v bs):∀b∈bs.flatten,∃c T f,h[b]? =some (.cells c T f):=by
 unfold Res at H;split at H
 ·obtain⟨b,rfl,H⟩:=H;intro c hc;simp only[List.flatten_cons,List.flatten_nil,List.append_nil] at hc;exact Rd.there _ _ _ H c hc
 ·obtain⟨vs,_,H⟩:=H;exact K7.there H
theorem Kf{h:Hp}{x:D}{u:Value}{bs:List Nat}(H:Rd false h x u bs)(hb:∀b∈bs,m.own b=none):zcm m h (zcA x) u:=by
 cases x with
 |agg cs=>
  simp only[Rd] at H;obtain⟨vs,rfl,H⟩:=H;exact⟨vs,rfl,Xz H hb⟩
 |_=>exact⟨j8 O H,bs,H,hb⟩
theorem zdW{h:Hp}:∀{rs:List D} {us:List Value} {bs:List (List Nat)},K7 false h rs us bs→(∀b∈bs.flatten,m.own b=none)→zl (zcm m h) (rs.map zcA) us
 |[],[],[],_,_=>trivial
 |r::rs,u::us,b::bs,H,hb=>⟨Kf H.1 (fun c hc=>hb c (by simp[hc])),zdW H.2 (fun c hc=>hb c (by simp only[List.flatten_cons,List.mem_append];exact .inr hc))⟩
 |[],[],_::_,H,_=>H.elim
 |[],_::_,_,H,_=>H.elim
 |_::_,[],_,H,_=>H.elim
 |_::_,_::_,[],H,_=>H.elim
theorem zdy{h:Hp}{rs:List D}{u:Value}{bs:List (List Nat)}(H:Res false h rs u bs)(hb:∀b∈bs.flatten,m.own b=none):qK m h (XK rs) u:=by
 unfold Res at H;unfold XK;split at H
 ·obtain⟨b,rfl,H⟩:=H;exact(Kf H (fun c hc=>hb c (by simpa using hc))).v
 ·rename_i hr;obtain⟨vs,rfl,H⟩:=H;split
  ·rename_i r;exact absurd O (hr r)
  ·exact⟨vs,rfl,zdW H hb⟩
theorem K7.weak{h:Hp}{o:Bool}:∀{rs:List D} {us:List Value} {bs:List (List Nat)},K7 o h rs us bs→K7 false h rs us bs
 |[],[],[],_=>trivial
 |r::rs,u::us,b::bs,H=>⟨zb5 H.1,K7.weak H.2⟩
 |[],[],_::_,H=>H.elim
 |[],_::_,_,H=>H.elim
 |_::_,[],_,H=>H.elim
 |_::_,_::_,[],H=>H.elim
theorem Res.weak{h:Hp}{o:Bool}{rs:List D}{u:Value}{bs:List (List Nat)}(H:Res o h rs u bs):Res false h rs u bs:=by
 unfold Res at H ⊢;split at H
 ·obtain⟨b,rfl,H⟩:=H;exact⟨b,rfl,zb5 H⟩
 ·obtain⟨vs,rfl,H⟩:=H;exact⟨vs,rfl,K7.weak H⟩
theorem zhE(R:zt cx m s a w){d:Nat}{f:Operand}{f':Opd}{xs:Array Operand}{xs':List Opd}{ts:Array TypeId}(ho:o.op= .call {callee:= .value f,args:=xs,argTypes:=ts})(hd:o.dst=some d)(hn:d < cx.n)(hf:zJ f=some f')(hxs:xs.toList.mapM zJ=some xs'){K':Out→Prop}
  (h:callB0 cx.P s d (s.ev f') (xs'.map s.ev) K') (hK:∀out,K' out→∀m' a' w',zt cx m' (s.app out) a' w'→K a' w'):o.wp cx.P a w K Q:=by
 unfold callB0 at h;rw[qB] at h;obtain⟨c,hc,h⟩:=h;rw[qB] at h;obtain⟨ds,hds,ow,md,rs,hfn,h⟩:=h;obtain⟨us,hu,hus⟩:=Xb (R.opd hf) hc;have hargs:=zl.append (kT R hxs) hus;obtain⟨bss,hA,hbo⟩:=zeO R hargs hds;have hcall:=hfn.2 w _ bss hA (by rw[y0];exact List.nodup_nil) (by rw[y0];simp);have hrun:(execOp a.eval o).run cx.P w= .ok (.enter c.1 (xs.toList.map a.eval++us.toList).toArray) w:=by
  simp only[execOp,ho,resolve,hu,Deferred.ofValue,Sem.run_bind,Sem.run_pure,Result.andThen_ok,invoke,Kx hfn.1];congr 2;apply Array.toList_inj.1;simp
 unfold Oper.wp;rw[hrun];refine Calls.mono hcall fun e w' ⟨v,br,bm,he,hp⟩=> ?_;subst he;show K (a.put o.dst v) w';rw[hd];have hkept:∀b,b < w.heap.size→w'.heap[b]? =w.heap[b]?:=fun b hb=>hp.kept b hb (by rw[y0];simp);cases md with
 |true=>
  simp only[if_true] at h;obtain⟨rfl,_,hfr,hk⟩:=h;have hfr1:s.hp (d * 64+63)=none:=hfr.1;have hbr:∀b∈br.flatten,w.heap.size≤b∧b < w'.heap.size:=fun b hb=>by
   obtain⟨x,y,z,e⟩:=hp.res.there b hb;refine⟨?_,zH e⟩;rcases hp.rfrom b hb with h|h|h
   ·exact h
   ·rw[y0] at h;cases h
   ·simp at h
  obtain⟨R1,E1⟩:=R.after (res:=d * 64+63) hp.os hp.tape hp.output hp.size hkept hbr;obtain⟨m2,R2,hv,E2⟩:=zcW (n:=d * 64) (res:=d * 64+63) R1 hfr.2.2 (R.noInf hfr1) hfr.2.1 hp.res (hp.nodupR O) (fun b hb=>⟨by simp only;rw[if_pos hb],.inl (by have:=R.fr.size;have:=(hbr b hb).1;omega)⟩);exact hK _ hk m2 _ _ (R2.set hn hv)
 |false=>
  simp only[Bool.false_eq_true,if_false] at h;obtain⟨hob,hk⟩:=h;have E1:Ext [] m w.heap m w'.heap:=⟨fun _ _ _ h=>h,fun b x y z hb ho=>⟨ho,hkept b<|zH hb⟩,fun b x y z j g hb _ _ ho _=>⟨ho,hkept b<|zH hb⟩⟩;have R1:zt cx m s a w':=by
   refine⟨R.size,R.defers,fun t=>E1.ver0 (R.sl t),fun j=>zT.ext E1 (fun b hb x hx=>⟨hb,hkept b<|zH hx⟩) O (R.hp j),⟨fun b j hb=> ?_,R.own.2⟩,?_,fun t=>E1.ver0 (R.gh t)⟩
   ·have:=R.own.1 b j hb;have:=hp.size;omega
   ·have F:=R.fr;exact⟨hp.os.trans F.os,hp.tape.trans F.tape,hp.output.trans F.output,by have:=F.size;have:=hp.size;omega,fun b hb hW=>by rw[hkept b (by have:=F.size;omega)];exact F.kept b hb hW⟩
  have hnone:∀b∈br.flatten,m.own b=none:=fun b hb=>by
   have hge:w.heap.size≤b→m.own b=none:=fun hge=>by
    cases ho:m.own b with
    |none=>rfl
    |some n=>have:=R.own.1 b n ho;omega
   rcases hp.rfrom b hb with h|h|h
   ·exact hge h
   ·rw[y0] at h;cases h
   ·have hb':=zgZ ds bss b h.2;rcases hob with hob|hob
    ·rw[h.1] at hob;cases hob
    ·rcases hbo b hb' with h0|⟨n,hn,_⟩
     ·exact h0
     ·exfalso;simp only[List.mem_flatMap] at hn;obtain⟨v,hv,hn⟩:=hn;rw[zjb s (List.all_eq_true.1 hob v hv)] at hn;cases hn
  exact hK _ hk m _ _ (R1.set hn<|zdy hp.res.weak hnone)
theorem ziA(R:zt cx m s a w){d:Nat}{f:Operand}{f':Opd}{xs:Array Operand}{xs':List Opd}{ts:Array TypeId}(ho:o.op= .call {callee:= .value f,args:=xs,argTypes:=ts})(hd:o.dst=some d)(hn:d < cx.n)(hf:zJ f=some f')(hxs:xs.toList.mapM zJ=some xs'){K':Out→Prop}
  (h:callB cx.P s d (s.ev f') (xs'.map s.ev) K') (hK:∀out,K' out→∀m' a' w',zt cx m' (s.app out) a' w'→K a' w'):o.wp cx.P a w K Q:=by
 rcases h with h|⟨k,B,u,hc,hB,hv,hk⟩
 ·exact zhE R ho hd hn hf hxs h hK
 obtain⟨us,hu,hus⟩:=Xb (R.opd hf) hc;have hus0:us=#[]:=by
  have:=hus.length;exact Array.eq_empty_of_size_eq_zero (by simpa using this)
 subst hus0;have hcall:=hv.2 cx m w (xs.toList.map a.eval) (fun p hp=>by have:=R.hp p.1;rwa [hB p hp] at this) (kT R hxs);have hrun:(execOp a.eval o).run cx.P w= .ok (.enter k (xs.toList.map a.eval).toArray) w:=by
  simp only[execOp,ho,resolve,hu,Deferred.ofValue,Sem.run_bind,Sem.run_pure,Result.andThen_ok,invoke,Kx hv.1];congr 2;apply Array.toList_inj.1;simp
 unfold Oper.wp;rw[hrun];refine Calls.mono hcall fun e w' ⟨v,he,hp,hr⟩=> ?_;subst he;show K (a.put o.dst v) w';rw[hd];have hkept:=hp.kept;have E1:Ext [] m w.heap m w'.heap:=⟨fun _ _ _ h=>h,fun b x y z hb ho=>⟨ho,hkept b<|zH hb⟩,fun b x y z j g hb _ _ ho _=>⟨ho,hkept b<|zH hb⟩⟩;have R1:zt cx m s a w':=by
  refine⟨R.size,R.defers,fun t=>E1.ver0 (R.sl t),fun j=>zT.ext E1 (fun b hb x hx=>⟨hb,hkept b<|zH hx⟩) O (R.hp j),⟨fun b j hb=> ?_,R.own.2⟩,?_,fun t=>E1.ver0 (R.gh t)⟩
  ·have:=R.own.1 b j hb;have:=hp.size;omega
  ·have F:=R.fr;exact⟨hp.os.trans F.os,hp.tape.trans F.tape,hp.output.trans F.output,by have:=F.size;have:=hp.size;omega,fun b hb hW=>by rw[hkept b (by have:=F.size;omega)];exact F.kept b hb hW⟩
 exact hK _ hk m _ _ (R1.set hn<|hr E1)
end Go.AW
