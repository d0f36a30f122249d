/- A function to which arguments are given, or lent to be written: from its body's proof to its contract. Lemmas. Conditions: none. -/
import Derived.Test.YtpabbbmfcgnhdaaGreatXb
set_option linter.unusedVariables false
namespace Go.AW
variable {cx:Cx} {m:M} {s:St} {a:Act} {w:World}
def ZH:Nat→List Ar→List V×List (Nat×Blk)
 |_,[]=>([],[])
 |k,a::as=>if a.md.owned then((JZ (64 * k) a.d).1::(ZH (k+1) as).1,(JZ (64 * k) a.d).2++(ZH (k+1) as).2)
  else(zcA a.d::(ZH (k+1) as).1,(ZH (k+1) as).2)
theorem KJ:∀{as:List Ar} {m:M} {s:St} (_:zt cx m s a w) {k res:Nat} {vs:List Value} {bss:List (List Nat)} (_:qp s ((ZH k as).2.map (·.1))) (_:m.inf res=none) (_:res∉(ZH k as).2.map (·.1)) (_:kC w.heap as vs bss)
  (_:(qR as bss).Nodup) (_:∀b∈qR as bss,m.own b=some res∧cx.mine b) (_:∀b∈ZZ as bss,m.own b=none),
  ∃m',zt cx m' (s.blks (ZH k as).2) a w∧zl (zcm m' w.heap) (ZH k as).1 vs∧Ext [] m w.heap m' w.heap
 |[],m,s,R,k,res,[],[],_,_,_,_,_,_,_=>⟨m,R,trivial,⟨fun _ _ _ h=>h,fun _ _ _ _ _ h=>⟨h,rfl⟩,fun _ _ _ _ _ _ _ _ _ h _=>⟨h,rfl⟩⟩⟩
 |x::as,m,s,R,k,res,u::vs,b1::bss,hf,hres,hne,HA,hnd,hown,hbor=>by
  obtain⟨h1,h2⟩:=HA;unfold ZH at hf hne ⊢;unfold qR at hnd hown;unfold ZZ at hbor;cases ho:x.md.owned with
  |true=>
   simp only[ho,if_true,List.map_append] at hf hne hnd hown hbor ⊢;have h1:=zbZ.own ho h1;simp only[List.mem_append,not_or] at hne;obtain⟨f1,f2,f3⟩:=xP hf;obtain⟨n1,n2,n3⟩:=List.nodup_append.1 hnd;obtain⟨m1,R1,c1,E1,r1,o1⟩:=zay R f1 hres hne.1 h1 n1 (fun b hb=>hown b (by simp[hb]));obtain⟨m2,R2,c2,E2⟩:=KJ (as:=as) R1 (Xy _ f3 f2) r1 hne.2 h2 n2 (fun b hb=>by
    rw[o1 b (fun hb1=>n3 b hb1 b hb O)];exact hown b (by simp[hb])) (fun b hb=>by
    have hn:=hbor b (by simpa using hb);rw[o1 b (fun hb1=>by have:=(hown b (by simp[hb1])).1;rw[hn] at this;cases this)];exact hn)
   refine⟨m2,?_,⟨E2.k c1,c2⟩,E1.trans E2⟩;rw[xW];exact R2
  |false=>
   simp only[ho,Bool.false_eq_true,if_false,List.nil_append] at hf hne hnd hown hbor ⊢;have h1:=zhd ho h1;obtain⟨m2,R2,c2,E2⟩:=KJ (as:=as) R hf hres hne h2 hnd hown (fun b hb=>hbor b (by simp[hb]));exact⟨m2,R2,⟨E2.k<|Kf h1 (fun b hb=>hbor b (by simp[hb])),c2⟩,E2⟩
 |[],_,_,_,_,_,_::_,_,_,_,_,H,_,_,_=>by cases ‹List (List Nat)›<;>exact H.elim
 |[],_,_,_,_,_,[],_::_,_,_,_,H,_,_,_=>H.elim
 |_::_,_,_,_,_,_,[],_,_,_,_,H,_,_,_=>H.elim
 |_::_,_,_,_,_,_,_::_,[],_,_,_,H,_,_,_=>H.elim
def vAt(vs:List V)(t:Nat):V:=match vs[t]? with
 |some v=>v
 |none=> .top
def ghL:Nat→List Ar→List V→bg
 |k,a::as,v::vs=>match a.md with
  | .m _=>(k,v)::ghL (k+1) as vs
  |_=>ghL (k+1) as vs
 |_,_,_=>[]
def lkG:bg→Nat→V
 |[],_=> .top
 |(k,v)::r,n=>if n=k then v else lkG r n
theorem zd4:∀{as:List Ar} {vs:List V} {k t:Nat},t < k→lkG (ghL k as vs) t= .top
 |[],_,_,_,_=>by unfold ghL;rfl
 |_::_,[],_,_,_=>by unfold ghL;rfl
 |a::as,v::vs,k,t,h=>by
  unfold ghL;split
  ·simp only[lkG];rw[if_neg (by omega)];exact zd4 (by omega)
  ·exact zd4 (by omega)
theorem zfx{h:Hp}:∀{as:List Ar} {vs:List V} {us:List Value} {k:Nat},zl (zcm m h) vs us→∀t,k≤t→qK m h (lkG (ghL k as vs) t) (us.getD (t - k) undef)
 |[],_,_,_,_,t,_=>by unfold ghL;trivial
 |_::_,[],_,_,_,t,_=>by unfold ghL;trivial
 |a::as,v::vs,u::us,k,H,t,ht=>by
  have ih:=fun hk:k+1≤t=>zfx (as:=as) H.2 t hk;have e:∀hk:k+1≤t,(u::us).getD (t - k) undef=us.getD (t - (k+1)) undef:=fun hk=>by
   rw[show t - k=(t - (k+1))+1 by omega];rfl
  unfold ghL;split
  ·simp only[lkG];by_cases e':t=k
   ·subst e';simp only[if_true,Nat.sub_self];exact H.1.v
   ·rw[if_neg e',e (by omega)];exact ih (by omega)
  ·by_cases e':t=k
   ·subst e';rw[zd4 (by omega)];trivial
   ·rw[e (by omega)];exact ih (by omega)
 |_::_,_::_,[],_,H,_,_=>H.elim
theorem zfF{h:Hp}:∀{vs:List V} {us:List Value},zl (zcm m h) vs us→∀(t:Nat) (u:Value),(t < us.length→us[t]? =some u)→qK m h (vAt vs t) u
 |[],[],_,t,u,_=>by unfold vAt;simp only[List.getElem?_nil];trivial
 |v::vs,u'::us,H,0,u,hu=>by
  have:=hu (by simp);simp at this;subst this;exact H.1.v
 |v::vs,u'::us,H,t+1,u,hu=>zfF (vs:=vs) H.2 t u (fun ht=>by simpa using hu (by simpa using ht))
 |[],_::_,H,_,_,_=>H.elim
 |_::_,[],H,_,_,_=>H.elim
def zcR(as:List Ar):St:=⟨vAt (ZH 0 as).1,((⟨fun _=> .top,fun _=>none,fun _=> .top⟩:St).blks (ZH 0 as).2).hp,lkG<|ghL 0 as (ZH 0 as).1⟩
def zbI(s:St):Nat→List Ar→List Nat→Prop
 |_,[],ns=>ns=[]
 |k,a::as,ns=>match a.md with
  | .m d'=>∃x y,ns=x++y∧vO s (s.gh k) d' x∧zbI s (k+1) as y
  |_=>zbI s (k+1) as ns
def X5(as:List Ar)(ts:List ZG)(rs:List D):Exit→St→Prop
 | .normal,s| .ret,s=>∃ns ms,zcD s ts rs ns∧zbI s 0 as ms∧(ns++ms).Nodup
 |_,_=>False
theorem Xm(R:zt cx m s a w):∀{as:List Ar} {vs:List Value} {k:Nat} {ns:List Nat},as.length=vs.length→(∀i,i < vs.length→cx.gh (k+i)=vs.getD i undef)→ns.Nodup→zbI s k as ns→
  ∃bm,zdx w.heap as vs bm∧xd cx m ns bm.flatten
 |[],[],k,ns,_,_,_,h=>by
  have h:ns=[]:=h;subst h;exact⟨[],trivial,xd.nil _⟩
 |x::as,v::vs,k,ns,hl,hg,hnd,h=>by
  have hg':∀i,i < vs.length→cx.gh (k+1+i)=vs.getD i undef:=fun i hi=>by
   have:=hg (i+1) (by simp;omega);rw[show k+1+i=k+(i+1) by omega,this];rfl
  have hg0:cx.gh k=v:=by have:=hg 0 (by simp);simpa using this
  unfold zbI at h;split at h
  ·rename_i d' hmd;obtain⟨p,q,rfl,h1,h2⟩:=h;rw[List.nodup_append] at hnd;obtain⟨b1,r1,o1⟩:=zgu R hnd.1 (R.gh k) h1;obtain⟨bm,r2,o2⟩:=Xm R (by simpa using hl) hg' hnd.2.1 h2;rw[hg0] at r1;refine⟨b1::bm,⟨?_,r2⟩,?_⟩
   ·rw[hmd];exact r1
   ·simp only[List.flatten_cons];exact o1.append (List.nodup_append.2 hnd) o2
  ·rename_i hmd;obtain⟨bm,r2,o2⟩:=Xm R (by simpa using hl) hg' hnd h;refine⟨[]::bm,⟨?_,r2⟩,by simpa using o2⟩;cases hx:x.md with
   |m d'=>exact absurd hx (hmd d')
   |_=>rfl
 |[],_::_,_,_,hl,_,_,_=>by simp at hl
 |_::_,[],_,_,hl,_,_,_=>by simp at hl
theorem Fn.introM{P:Program}{f:FuncId}{fn:Func}{code:Code}{n:Nat}{hints h':Qy}{ic:IC}{as:List Ar}{rs:List D}{ts:List ZG}(hcall:callable P f=true)(hf:P.funcs[f]? =some fn)(hb:fn.body=some code)
  (hn:fn.ntmps=n) (hle:as.length≤n) (hic:qI P n code hints=some (ic,h')) (hres:fn.results.toList.mapM (K3 P)=some ts) (hfr:qp ⟨fun _=> .top,fun _=>none,fun _=> .top⟩ ((ZH 0 as).2.map (·.1))) (hlt:((ZH 0 as).2.map (·.1)).all (fun n=>Nat.ble n 1999999)=true)
  (h:AW0 P n ic (X5 as ts rs) (zcR as)):Fn P f as true rs:=by
 refine⟨hcall,fun w vs bss HA hndo hob=> ?_⟩;obtain⟨hl1,hl2⟩:=HA.length
 let own0:Nat→Option Nat:=fun b=>if b∈ZZ as bss then none else some 2000000
 have hfar:∀b k,own0 b=some k→k=2000000:=fun b k e=>by
  simp only[own0] at e;split at e
  ·cases e
  ·cases e;rfl
 let cx:Cx:={P:=P,n:=n,w0:=w,W:=fun b=>b∈qR as bss,gh:=fun t=>vs.getD t undef,own0:=own0,far:=hfar}
 let m0:M:={inf:=fun _=>none,own:=fun b=>if b < w.heap.size then own0 b else none}
 let a0:Act:={tmps:=vs.toArray++Array.replicate (fn.ntmps - vs.toArray.size) undef,defers:=[]}
 let s0:St:=⟨fun _=> .top,fun _=>none,fun _=> .top⟩
 have R0:zt cx m0 s0 a0 w:=by
  refine⟨?_,rfl,(fun t=>trivial),(fun k=>trivial),⟨(fun b k hb=> ?_),fun b hb _=> ?_⟩,⟨rfl,rfl,rfl,Nat.le_refl _,fun _ _ _=>rfl⟩,(fun t=>trivial)⟩
  ·simp only[a0,Array.size_append,Array.size_replicate,List.size_toArray,hn,cx];omega
  ·have hb:(if b < w.heap.size then own0 b else none)=some k:=hb;split at hb
   ·assumption
   ·cases hb
  ·show(if b < w.heap.size then own0 b else none)=own0 b;rw[if_pos hb]
 have hthere:∀b∈qR as bss,b < w.heap.size:=by
  have key:∀{as:List Ar} {vs:List Value} {bss:List (List Nat)},kC w.heap as vs bss→∀b∈qR as bss,b < w.heap.size:=by
   intro as;induction as with
   |nil=>intro vs bss _ b hb;simp[qR] at hb
   |cons x as ih=>
    intro vs bss H b hb;cases vs with
    |nil=>exact H.elim
    |cons v vs=>
     cases bss with
     |nil=>exact H.elim
     |cons b1 bss=>
      simp only[qR,List.mem_append] at hb;rcases hb with hb|hb
      ·split at hb
       ·rename_i hox;obtain⟨x,y,z,e⟩:=Rd.there _ _ _ (zbZ.own hox H.1) b hb;exact zH e
       ·cases hb
      ·exact ih H.2 b hb
  exact key HA
 obtain⟨m1,R1,hall,E1⟩:=KJ (k:=0) (res:=2000000) R0 hfr O (fun hmem=>by
  have:=List.all_eq_true.1 hlt 2000000 hmem;simp at this) HA hndo (fun b hb=>⟨by
   show(if b < w.heap.size then own0 b else none)=some 2000000;rw[if_pos (hthere b hb)];simp only[own0];rw[if_neg (hob b hb)],.inr hb⟩) (fun b hb=>by
   show(if b < w.heap.size then own0 b else none)=none;have:own0 b=none:=by simp only[own0];rw[if_pos hb]
   split
   ·exact this
   ·rfl)
 have Ri:zt cx m1 (zcR as) a0 w:=by
  refine⟨R1.size,R1.defers,(fun t=> ?_),(fun k=>R1.hp k),R1.own,R1.fr,(fun t=> ?_)⟩
  ·refine zfF hall t _ fun ht=> ?_;simp only[a0];rw[Array.getD_eq_getD_getElem?,Array.getElem?_append_left (by simpa using ht)];simp[List.getElem?_eq_getElem ht]
  ·have:=zfx (as:=as) (k:=0) hall t (Nat.zero_le _);rw[Nat.sub_zero] at this;exact this
 refine calls_of_wp hf hb (wp_mono (h cx code hints h' a0 w O O hic ⟨m1,Ri⟩) fun e a' w' ⟨s',hs,m',R'⟩=> ?_);have fin:∀ns ms,zcD s' ts rs ns→zbI s' 0 as ms→(ns++ms).Nodup→a'.defers=[]∧∃v,(results fn a'.tmps).run P w'= .ok v w'∧∃v' br bm,Ending.returned v= .returned v'∧zhg w w' as vs bss true rs v' br bm:=fun ns ms hr hm hnd=>by
  have hnd':=List.nodup_append.1 hnd;obtain⟨us,br,h0,h1,h2⟩:=Xt R' hres hnd'.1 hr;obtain⟨bm,h3,h4⟩:=Xm R' (as:=as) (vs:=vs) (k:=0) hl1.symm (fun i hi=>by simp[cx]) hnd'.2.1 hm;have hboth:=h2.append hnd h4;refine⟨R'.defers,_,Xi h0,_,br,bm,rfl,?_⟩;refine⟨R'.fr.os,R'.fr.tape,R'.fr.output,R'.fr.size,fun b hb hn=>R'.fr.kept b hb hn,h1.pack,h3,h4.1,(fun _=>h2.1),(fun b hb hb'=> ?_),(fun b hb=> ?_),(fun b hb=> ?_)⟩
  ·exact(List.nodup_append.1 hboth.1).2.2 b hb b hb' rfl
  ·exact(h4.2 b hb).1
  ·rcases(h2.2 b hb).1 with hm|hm
   ·exact .inl hm
   ·exact .inr (.inl hm)
 cases e with
 |normal=>obtain⟨ns,ms,hr,hm,hnd⟩:=hs;exact fin ns ms hr hm hnd
 |ret=>obtain⟨ns,ms,hr,hm,hnd⟩:=hs;exact fin ns ms hr hm hnd
 |_=>exact hs.elim
theorem Fn.introM'{P:Program}{f:FuncId}{fn:Func}{n:Nat}{hints h':Qy}{ic:IC}{as:List Ar}{rs:List D}{ts:List ZG}(hcall:callable P f=true)(hf:P.funcs[f]? =some fn)
  (hn:fn.ntmps=n) (hic:(fn.body.bind fun c=>qI P n c hints)=some (ic,h')) (hres:fn.results.toList.mapM (K3 P)=some ts) (hle:as.length≤n) (hfr:qp ⟨fun _=> .top,fun _=>none,fun _=> .top⟩ ((ZH 0 as).2.map (·.1))) (hlt:((ZH 0 as).2.map (·.1)).all (fun n=>Nat.ble n 1999999)=true)
  (h:AW0 P n ic (X5 as ts rs) (zcR as)):Fn P f as true rs:=by
 rw[obi] at hic;obtain⟨code,hb,hic⟩:=hic;exact Fn.introM hcall hf hb hn hle hic hres hfr hlt h
def FnC(P:Program)(v0:Value)(x:D)(f:FuncId)(as:List Ar)(rs:List D):Prop:=
 callable P f=true∧∀(w:World) (vs:List Value) (bss:List (List Nat)) (bx:List Nat),kC w.heap as vs bss→(qR as bss).Nodup→(∀b∈qR as bss,b∉ZZ as bss)→
  (v0.oneCell'=true∧Rd false w.heap x v0 bx)→(∀b∈qR as bss,b∉bx)→
  Calls P f vs.toArray w (fun e w'=>∃v br bm,e= .returned v∧zhg w w' as vs bss true rs v br bm)
def FnS(P:Program)(s:St)(f:FuncId)(as:List Ar)(rs:List D):Prop:=
 Fn P f as true rs∨(∃v0 x,s.gh 63= .one (.d<|.both v0 x)∧FnC P v0 x f as rs)∨∃t v0 x,s.sl t= .one (.d<|.both v0 x)∧FnC P v0 x f as rs
theorem FnS.callable{P:Program}{s:St}{f:FuncId}{as:List Ar}{rs:List D}(H:FnS P s f as rs):callable P f=true:=by
 rcases H with H|⟨v0,x,_,H⟩|⟨t,v0,x,_,H⟩
 ·exact H.1
 ·exact H.1
 ·exact H.1
theorem FnS.calls(R:zt cx m s a w){f:FuncId}{as:List Ar}{rs:List D}(H:FnS cx.P s f as rs){vs:List Value}{bss:List (List Nat)}(HA:kC w.heap as vs bss)(hn:(qR as bss).Nodup)(hap:∀b∈qR as bss,b∉ZZ as bss)(hown:∀b∈qR as bss,m.own b≠none):
  Calls cx.P f vs.toArray w (fun e w'=>∃v br bm,e= .returned v∧zhg w w' as vs bss true rs v br bm):=by
 rcases H with H|⟨v0,x,hg,H⟩|⟨t,v0,x,hg,H⟩
 ·exact H.2 w vs bss HA hn hap
 ·have G:=R.gh 63;rw[hg] at G;obtain⟨h1,bs,hr,hb⟩:=G;simp only[Rd] at hr;obtain⟨⟨e,hc⟩,hr⟩:=hr;rw[←e] at hr;exact H.2 w vs bss bs HA hn hap ⟨hc,hr⟩ (fun b hb' hx=>hown b hb' (hb b hx))
 ·have G:=R.sl t;rw[hg] at G;obtain⟨h1,bs,hr,hb⟩:=G;simp only[Rd] at hr;obtain⟨⟨e,hc⟩,hr⟩:=hr;rw[←e] at hr;exact H.2 w vs bss bs HA hn hap ⟨hc,hr⟩ (fun b hb' hx=>hown b hb' (hb b hx))
theorem FnC.fn{P:Program}{f:FuncId}{sz:Nat}{xs:List (List D)}{rs:List D}(H:∀v0,FnC P v0 (.sl sz xs) f [⟨.pin v0,.b⟩] rs):Fn P f [⟨.sl sz xs,.b⟩] true rs:=by
 refine⟨(H undef).1,fun w vs bss HA hnd hap=> ?_⟩
 match vs,bss,HA with
 |[v],[b],HA=>
  have hr:Rd false w.heap (.sl sz xs) v b:=HA.1;have hc:v.oneCell'=true:=j8 O hr;have hs:∃a n c,v= .slice a n c:=by
   simp only[Rd] at hr;obtain⟨a,c,e,_⟩:=hr;exact⟨a,_,c,e⟩
  have HA':kC w.heap [⟨.pin v,.b⟩] [v] [[]]:=⟨by
   show Rd false w.heap (.pin v) v [];simp only[Rd];exact⟨⟨by trivial,hs⟩,by trivial⟩,trivial⟩
  refine Calls.mono ((H v).2 w [v] [[]] b HA' List.nodup_nil (by simp[qR,Md.owned]) ⟨hc,hr⟩ (by simp[qR,Md.owned])) fun e w' ⟨v',br,bm,he,hp⟩=>⟨v',br,bm,he,?_⟩;refine⟨hp.os,hp.tape,hp.output,hp.size,fun c hc _=>hp.kept c hc (by simp[qR,Md.owned]),hp.res,?_,hp.nodup,hp.nodupR,hp.apart,fun c hc=> ?_,fun c hc=> ?_⟩
  ·have:=hp.muts
   match bm,this with
   |[bb],this=>exact⟨this.1,trivial⟩
  ·rcases hp.mfrom c hc with h|h
   ·exact .inl h
   ·simp[qR,Md.owned] at h
  ·rcases hp.rfrom c hc with h|h|h
   ·exact .inl h
   ·simp[qR,Md.owned] at h
   ·exact absurd h.1 (by simp)
 |[],[],HA=>exact HA.elim
 |[],_::_,HA=>exact HA.elim
 |_::_,[],HA=>exact HA.elim
 |_::_::_,_::_,HA=>exact(show False from by have:=HA.2;cases ‹List (List Nat)›<;>exact this.elim).elim
 |[_],_::_::_,HA=>exact HA.2.elim
def zfn(v0:Value)(x:D)(as:List Ar):St:=⟨(zcR as).sl,(zcR as).hp,fun t=>if t=63 then .one (.d<|.both v0 x) else(zcR as).gh t⟩
theorem FnC.introM{P:Program}{v0:Value}{x:D}{f:FuncId}{fn:Func}{code:Code}{n:Nat}{hints h':Qy}{ic:IC}{as:List Ar}{rs:List D}{ts:List ZG}(hcall:callable P f=true)(hf:P.funcs[f]? =some fn)(hb:fn.body=some code)
  (hn:fn.ntmps=n) (hle:as.length≤n) (hle':as.length≤63) (hic:qI P n code hints=some (ic,h')) (hres:fn.results.toList.mapM (K3 P)=some ts) (hfr:qp ⟨fun _=> .top,fun _=>none,fun _=> .top⟩ ((ZH 0 as).2.map (·.1))) (hlt:((ZH 0 as).2.map (·.1)).all (fun n=>Nat.ble n 1999999)=true)
  (h:AW0 P n ic (X5 as ts rs) (zfn v0 x as)):FnC P v0 x f as rs:=by
 refine⟨hcall,fun w vs bss bx HA hndo hob hx0 hobx=> ?_⟩;obtain⟨hl1,hl2⟩:=HA.length
 let own0:Nat→Option Nat:=fun b=>if b∈ZZ as bss∨b∈bx then none else some 2000000
 have hfar:∀b k,own0 b=some k→k=2000000:=fun b k e=>by
  simp only[own0] at e;split at e
  ·cases e
  ·cases e;rfl
 let cx:Cx:={P:=P,n:=n,w0:=w,W:=fun b=>b∈qR as bss,gh:=fun t=>if t=63 then v0 else vs.getD t undef,own0:=own0,far:=hfar}
 let m0:M:={inf:=fun _=>none,own:=fun b=>if b < w.heap.size then own0 b else none}
 let a0:Act:={tmps:=vs.toArray++Array.replicate (fn.ntmps - vs.toArray.size) undef,defers:=[]}
 let s0:St:=⟨fun _=> .top,fun _=>none,fun _=> .top⟩
 have R0:zt cx m0 s0 a0 w:=by
  refine⟨?_,rfl,(fun t=>trivial),(fun k=>trivial),⟨(fun b k hb=> ?_),fun b hb _=> ?_⟩,⟨rfl,rfl,rfl,Nat.le_refl _,fun _ _ _=>rfl⟩,(fun t=>trivial)⟩
  ·simp only[a0,Array.size_append,Array.size_replicate,List.size_toArray,hn,cx];omega
  ·have hb:(if b < w.heap.size then own0 b else none)=some k:=hb;split at hb
   ·assumption
   ·cases hb
  ·show(if b < w.heap.size then own0 b else none)=own0 b;rw[if_pos hb]
 have hthere:∀b∈qR as bss,b < w.heap.size:=by
  have key:∀{as:List Ar} {vs:List Value} {bss:List (List Nat)},kC w.heap as vs bss→∀b∈qR as bss,b < w.heap.size:=by
   intro as;induction as with
   |nil=>intro vs bss _ b hb;simp[qR] at hb
   |cons x as ih=>
    intro vs bss H b hb;cases vs with
    |nil=>exact H.elim
    |cons v vs=>
     cases bss with
     |nil=>exact H.elim
     |cons b1 bss=>
      simp only[qR,List.mem_append] at hb;rcases hb with hb|hb
      ·split at hb
       ·rename_i hox;obtain⟨x,y,z,e⟩:=Rd.there _ _ _ (zbZ.own hox H.1) b hb;exact zH e
       ·cases hb
      ·exact ih H.2 b hb
  exact key HA
 obtain⟨m1,R1,hall,E1⟩:=KJ (k:=0) (res:=2000000) R0 hfr O (fun hmem=>by
  have:=List.all_eq_true.1 hlt 2000000 hmem;simp at this) HA hndo (fun b hb=>⟨by
   show(if b < w.heap.size then own0 b else none)=some 2000000;rw[if_pos (hthere b hb)];simp only[own0];rw[if_neg (fun h=>h.elim (hob b hb) (hobx b hb))],.inr hb⟩) (fun b hb=>by
   show(if b < w.heap.size then own0 b else none)=none;have:own0 b=none:=by simp only[own0];rw[if_pos (.inl hb)]
   split
   ·exact this
   ·rfl)
 have Ri:zt cx m1 (zfn v0 x as) a0 w:=by
  refine⟨R1.size,R1.defers,(fun t=> ?_),(fun k=>R1.hp k),R1.own,R1.fr,(fun t=> ?_)⟩
  ·refine zfF hall t _ fun ht=> ?_;simp only[a0];rw[Array.getD_eq_getD_getElem?,Array.getElem?_append_left (by simpa using ht)];simp[List.getElem?_eq_getElem ht]
  ·show qK m1 w.heap (if t=63 then _ else _) (if t=63 then v0 else vs.getD t undef);by_cases e:t=63
   ·rw[if_pos e,if_pos e];refine E1.ver0 (x:= .one (.d<|.both v0 x)) ⟨hx0.1,bx,?_,fun b hb=> ?_⟩
    ·simp only[Rd];exact⟨⟨by trivial,hx0.1⟩,hx0.2⟩
    ·show(if b < w.heap.size then own0 b else none)=none;have:own0 b=none:=by simp only[own0];rw[if_pos (.inr hb)]
     split
     ·exact this
     ·rfl
   ·rw[if_neg e,if_neg e];have:=zfx (as:=as) (k:=0) hall t (Nat.zero_le _);rw[Nat.sub_zero] at this;exact this
 refine calls_of_wp hf hb (wp_mono (h cx code hints h' a0 w O O hic ⟨m1,Ri⟩) fun e a' w' ⟨s',hs,m',R'⟩=> ?_);have fin:∀ns ms,zcD s' ts rs ns→zbI s' 0 as ms→(ns++ms).Nodup→a'.defers=[]∧∃v,(results fn a'.tmps).run P w'= .ok v w'∧∃v' br bm,Ending.returned v= .returned v'∧zhg w w' as vs bss true rs v' br bm:=fun ns ms hr hm hnd=>by
  have hnd':=List.nodup_append.1 hnd;obtain⟨us,br,h0,h1,h2⟩:=Xt R' hres hnd'.1 hr;obtain⟨bm,h3,h4⟩:=Xm R' (as:=as) (vs:=vs) (k:=0) hl1.symm (fun i hi=>by simp only[cx,Nat.zero_add];rw[if_neg (by omega)]) hnd'.2.1 hm;have hboth:=h2.append hnd h4;refine⟨R'.defers,_,Xi h0,_,br,bm,rfl,?_⟩;refine⟨R'.fr.os,R'.fr.tape,R'.fr.output,R'.fr.size,fun b hb hn=>R'.fr.kept b hb hn,h1.pack,h3,h4.1,(fun _=>h2.1),(fun b hb hb'=> ?_),(fun b hb=> ?_),(fun b hb=> ?_)⟩
  ·exact(List.nodup_append.1 hboth.1).2.2 b hb b hb' rfl
  ·exact(h4.2 b hb).1
  ·rcases(h2.2 b hb).1 with hm|hm
   ·exact .inl hm
   ·exact .inr (.inl hm)
 cases e with
 |normal=>obtain⟨ns,ms,hr,hm,hnd⟩:=hs;exact fin ns ms hr hm hnd
 |ret=>obtain⟨ns,ms,hr,hm,hnd⟩:=hs;exact fin ns ms hr hm hnd
 |_=>exact hs.elim
theorem FnC.introM'{P:Program}{v0:Value}{x:D}{f:FuncId}{fn:Func}{n:Nat}{hints h':Qy}{ic:IC}{as:List Ar}{rs:List D}{ts:List ZG}(hcall:callable P f=true)(hf:P.funcs[f]? =some fn)
  (hn:fn.ntmps=n) (hic:(fn.body.bind fun c=>qI P n c hints)=some (ic,h')) (hres:fn.results.toList.mapM (K3 P)=some ts) (hle:as.length≤n) (hle':as.length≤63) (hfr:qp ⟨fun _=> .top,fun _=>none,fun _=> .top⟩ ((ZH 0 as).2.map (·.1))) (hlt:((ZH 0 as).2.map (·.1)).all (fun n=>Nat.ble n 1999999)=true)
  (h:AW0 P n ic (X5 as ts rs) (zfn v0 x as)):FnC P v0 x f as rs:=by
 rw[obi] at hic;obtain⟨code,hb,hic⟩:=hic;exact FnC.introM hcall hf hb hn hle hle' hic hres hfr hlt h
end Go.AW
