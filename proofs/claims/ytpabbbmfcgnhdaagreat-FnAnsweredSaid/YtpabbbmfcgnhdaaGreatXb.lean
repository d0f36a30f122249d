/- A function whose results may share what was lent to it: from its body's proof to its contract. Lemmas. Conditions: none. -/
import Derived.Test.YtpabbbmfcgnhdaaGreatX
set_option linter.unusedVariables false
namespace Go.AW
variable {cx:Cx} {m:M} {s:St} {a:Act} {w:World}
def RdI(d d':D):Prop:=∀h v bs,Rd false h d' v bs→∃bs',(∀b∈bs',b∈bs)∧Rd false h d v bs'
theorem RdI.rfl{d:D}:RdI d d:=fun _ _ bs H=>⟨bs,fun _ h=>h,H⟩
def zbo:List Nat→Bool
 |[]=>true
 |n::ns=>Nat.ble n 1999999&&zbo ns
theorem zdu:∀{ns:List Nat},zbo ns=true→∀n∈ns,n≠2000000
 |k::ns,h,n,hn=>by
  simp only[zbo,Bool.and_eq_true,Nat.ble_eq] at h;rcases List.mem_cons.1 hn with e|hn
  ·omega
  ·exact zdu h.2 n hn
def zjA(s:St):List ZG→List D→Prop
 |[],[]=>True
 |t::ts,r::rs=>∃v r',s.rdR t=some v∧vD s v=some r'∧RdI r r'∧zbo (KW s v)=true∧zjA s ts rs
 |_,_=>False
def zgQ(ts:List ZG)(rs:List D):Exit→St→Prop
 | .normal,s| .ret,s=>zjA s ts rs
 |_,_=>False
def zGU(cx:Cx)(b:Nat):Prop:=cx.w0.heap.size≤b∨cx.own0 b=none
theorem zn0(R:zt cx m s a w)(hW:∀b,¬cx.W b){us bs:List Nat}(hu:zbo us=true)(H:Of m us bs):∀b∈bs,zGU cx b:=fun b hb=>by
 by_cases hlt:b < cx.w0.heap.size
 ·have ho:=R.own.2 b hlt (hW b);rcases H b hb with h|⟨n,hn,h⟩
  ·exact .inr (by rw[←ho];exact h)
  ·rw[ho] at h;have:=cx.far b n h;exact absurd this (zdu hu n hn)
 ·exact .inl (by omega)
theorem zd5(R:zt cx m s a w)(hW:∀b,¬cx.W b):∀{rl:List ResultVar} {ts:List ZG} {rs:List D},rl.mapM (K3 cx.P)=some ts→zjA s ts rs→
  ∃us br,(rl.mapM<|K9 a.tmps).run cx.P w= .ok us w∧K7 false w.heap rs us br∧∀b∈br.flatten,zGU cx b
 |[],ts,rs,hm,h=>by
  simp at hm;subst hm;cases rs with
  |nil=>exact⟨[],[],rfl,trivial,by simp⟩
  |cons _ _=>exact h.elim
 |r::rl,ts,rs,hm,h=>by
  simp only[List.mapM_cons,Option.pure_def,Option.bind_eq_bind,obi] at hm;obtain⟨q,hq,qs,hqs,he⟩:=hm;cases he;cases rs with
  |nil=>exact h.elim
  |cons d rs=>
   obtain⟨v,r',hv,hd,hi,hu,ht⟩:=h;obtain⟨u,hu1,hu2⟩:=zbB R hq hv;obtain⟨us,br,h1,h2,h3⟩:=zd5 R hW hqs ht;obtain⟨bs,hr,hof⟩:=zdH R hu2 hd;obtain⟨bs',hsub,hr'⟩:=hi _ _ _ hr;have hb:=zn0 R hW hu hof;refine⟨u::us,bs'::br,?_,⟨hr',h2⟩,fun b hb'=> ?_⟩
   ·simp only[List.mapM_cons,Sem.run_bind,hu1,Result.andThen_ok,h1]
    try rfl
   ·simp only[List.flatten_cons,List.mem_append] at hb';rcases hb' with hb'|hb'
    ·exact hb b (hsub b hb')
    ·exact h3 b hb'
theorem kC.atB{h:Hp}:∀{ds:List D} {vs:List Value} {bss:List (List Nat)},kC h (lent ds) vs bss→∀{t:Nat} {d:D},ds[t]? =some d→∃v bs,vs[t]? =some v∧Rd false h d v bs∧∀b∈bs,b∈ZZ (lent ds) bss
 |[],[],[],_,t,d,hd=>by simp at hd
 |e::ds,v::vs,b::bss,H,t,d,hd=>by
  cases t with
  |zero=>
   simp at hd;subst hd;exact⟨v,b,rfl,H.1,fun c hc=>by simp[lent,ZZ,Md.owned,hc]⟩
  |succ t=>
   simp at hd;obtain⟨u,bs,h1,h2,h3⟩:=kC.atB (ds:=ds) H.2 hd;refine⟨u,bs,by simpa using h1,h2,fun c hc=> ?_⟩;have:=h3 c hc;simp only[lent,List.map_cons,ZZ,Md.owned,Bool.false_eq_true,if_false,List.mem_append];exact .inr this
 |[],[],_::_,H,_,_,_=>H.elim
 |[],_::_,_,H,_,_,_=>H.elim
 |_::_,[],_,H,_,_,_=>H.elim
 |_::_,_::_,[],H,_,_,_=>H.elim
theorem zjk{P:Program}{f:FuncId}{fn:Func}{code:Code}{n:Nat}{hints h':Qy}{ic:IC}{ds rs:List D}{ts:List ZG}(hcall:callable P f=true)(hf:P.funcs[f]? =some fn)(hb:fn.body=some code)
  (hn:fn.ntmps=n) (hle:ds.length≤n) (hic:qI P n code hints=some (ic,h')) (hres:fn.results.toList.mapM (K3 P)=some ts)
  (h:AW0 P n ic (zgQ ts rs) (zfD ds)):Fn P f (lent ds) false rs:=by
 refine⟨hcall,fun w vs bss HA _ _=> ?_⟩;obtain⟨hl1,hl2⟩:=HA.length;have hl1:vs.length=ds.length:=by simpa[lent] using hl1
 let own0:Nat→Option Nat:=fun b=>if b∈ZZ (lent ds) bss then none else some 2000000
 have hfar:∀b k,own0 b=some k→k=2000000:=fun b k e=>by
  simp only[own0] at e;split at e
  ·cases e
  ·cases e;rfl
 let cx:Cx:={P:=P,n:=n,w0:=w,W:=fun _=>False,gh:=fun t=>vs.getD t undef,own0:=own0,far:=hfar}
 let m0:M:={inf:=fun _=>none,own:=fun b=>if b < w.heap.size then own0 b else none}
 let a0:Act:={tmps:=vs.toArray++Array.replicate (fn.ntmps - vs.toArray.size) undef,defers:=[]}
 have hsl:∀t v,(∀d,ds[t]? =some d→∃bs,Rd false w.heap d v bs∧∀b∈bs,b∈ZZ (lent ds) bss)→qK m0 w.heap (Y1 ds t) v:=fun t v hv=>by
  unfold Y1;split
  ·rename_i d hd;obtain⟨bs,hr,hm⟩:=hv d hd;refine(Kf hr (fun b hb=> ?_)).v;show(if b < w.heap.size then own0 b else none)=none;have:own0 b=none:=by simp only[own0];rw[if_pos (hm b hb)]
   split
   ·exact this
   ·rfl
  ·trivial
 have R0:zt cx m0 (zfD ds) a0 w:=by
  refine⟨?_,rfl,(fun t=>hsl t _ fun d hd=> ?_),(fun k=>trivial),⟨(fun b k hb=> ?_),fun b hb _=> ?_⟩,⟨rfl,rfl,rfl,Nat.le_refl _,fun _ _ _=>rfl⟩,(fun t=>hsl t _ fun d hd=> ?_)⟩
  ·simp only[a0,Array.size_append,Array.size_replicate,List.size_toArray,hn,cx];omega
  ·obtain⟨v,bs,hv,hr,hm⟩:=HA.atB hd;refine⟨bs,?_,hm⟩;have hlt:t < vs.length:=(List.getElem?_eq_some_iff.1 hv).1;have:a0.tmps.getD t undef=v:=by
    rw[Array.getD_eq_getD_getElem?];simp only[a0];rw[Array.getElem?_append_left (by simpa using hlt)];simp[hv]
   rw[this];exact hr
  ·have hb:(if b < w.heap.size then own0 b else none)=some k:=hb;split at hb
   ·assumption
   ·cases hb
  ·show(if b < w.heap.size then own0 b else none)=own0 b;rw[if_pos hb]
  ·obtain⟨v,bs,hv,hr,hm⟩:=HA.atB hd;refine⟨bs,?_,hm⟩;have:vs.getD t undef=v:=by rw[List.getD_eq_getElem?_getD,hv];rfl
   simp only[cx,this];exact hr
 refine calls_of_wp hf hb (wp_mono (h cx code hints h' a0 w O O hic ⟨m0,R0⟩) fun e a' w' ⟨s',hs,m',R'⟩=> ?_);have fin:zjA s' ts rs→a'.defers=[]∧∃v,(results fn a'.tmps).run P w'= .ok v w'∧∃v' br bm,Ending.returned v= .returned v'∧zhg w w' (lent ds) vs bss false rs v' br bm:=fun hr=>by
  obtain⟨us,br,h0,h1,h2⟩:=zd5 R' (fun _ h=>h) hres hr;have hnil:=zwZ ds;refine⟨R'.defers,_,Xi h0,_,br,ds.map fun _=>[],rfl,?_⟩;refine⟨R'.fr.os,R'.fr.tape,R'.fr.output,R'.fr.size,fun b hb _=>R'.fr.kept b hb (fun h=>h.elim),h1.pack,zbp hl1,?_,(fun h=>by cases h),(fun b _ hb=> ?_),(fun b hb=> ?_),(fun b hb=> ?_)⟩
  ·rw[hnil];exact List.nodup_nil
  ·rw[hnil] at hb;cases hb
  ·rw[hnil] at hb;cases hb
  ·rcases h2 b hb with hm|hm
   ·exact .inl hm
   ·refine .inr (.inr ⟨rfl,?_⟩);have hm:own0 b=none:=hm;simp only[own0] at hm;split at hm
    ·assumption
    ·cases hm
 cases e with
 |normal=>exact fin hs
 |ret=>exact fin hs
 |_=>exact hs.elim
theorem zhX{P:Program}{f:FuncId}{fn:Func}{n:Nat}{hints h':Qy}{ic:IC}{ds rs:List D}{ts:List ZG}(hcall:callable P f=true)(hf:P.funcs[f]? =some fn)
  (hn:fn.ntmps=n) (hic:(fn.body.bind fun c=>qI P n c hints)=some (ic,h')) (hres:fn.results.toList.mapM (K3 P)=some ts) (hle:ds.length≤n)
  (h:AW0 P n ic (zgQ ts rs) (zfD ds)):Fn P f (lent ds) false rs:=by
 rw[obi] at hic;obtain⟨code,hb,hic⟩:=hic;exact zjk hcall hf hb hn hle hic hres h
end Go.AW
