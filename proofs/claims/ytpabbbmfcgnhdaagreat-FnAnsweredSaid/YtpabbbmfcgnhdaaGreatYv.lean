/- Short names: for rows of the compact code, for values, and for rules of the logic that are often used one after the other. Conditions: each theorem's own. -/
import Derived.Test.YtpabbbmfcgnhdaaGreatYk
set_option linter.unusedVariables false
namespace Go.AW
theorem eR{l:bg}{n:Nat}{v:V}(h:lkO l n=some v):Ev l (.t n) v:=h
def ziR:bh→Nat→Option Blk
 |[],_=>none
 |(k,v)::r,n=>match Nat.beq n k with
  |true=>some v
  |false=>ziR r n
theorem zfU(n:Nat):∀h:bh,ziR h n=lkB h n
 |[]=>rfl
 |(k,v)::r=>by
  unfold ziR lkB;split
  ·rename_i e;rw[if_pos (Nat.eq_of_beq_eq_true e)]
  ·rename_i e;rw[if_neg (Nat.ne_of_beq_eq_false e)];exact zfU n r
theorem bR{h:bh}{n:Nat}{b:Blk}(e:ziR h n=some b):LB h n b:=(zfU n h).symm.trans e
theorem nR{h:bh}{n:Nat}(e:ziR h n=none):NB h n:=(zfU n h).symm.trans e
theorem sR{l:bg}{ns:List Nat}:∀{l':bg},(l'.map fun p=>lkO l p.1)=(l'.map fun p=>some p.2)→(l'.map fun p=>p.2.er ns)=(l'.map fun p=>p.2)→SL l ns l'
 |[],_,_=>SL.nil
 |(k,v)::r,h1,h2=>by
  simp only[List.map_cons,List.cons.injEq] at h1 h2;exact SL.cons (eR h1.1) h2.1 VWk.rfl (sR h1.2 h2.2)
theorem blR{h':bh}{ns:List Nat}:∀{h:bh},(h.all fun p=>ns.contains p.1||(h'.map (·.1)).contains p.1)=true→BL h' ns h
 |[],_=>BL.nil
 |(n,b)::r,e=>by
  simp only[List.all_cons,Bool.and_eq_true,Bool.or_eq_true] at e;rcases e.1 with h|h
  ·exact BL.drop h (blR e.2)
  ·exact zoY h (blR e.2)
theorem bkR{h:bh}{ns:List Nat}:∀{h':bh},(h'.all fun p=>!ns.contains p.1)=true→(h'.map fun p=>ziR h p.1)=(h'.map fun p=>some p.2)→(h'.map fun p=>p.2.er ns)=(h'.map fun p=>p.2)→BK h ns h'
 |[],_,_,_=>BK.nil
 |(n,b)::r,e,h1,h2=>by
  simp only[List.all_cons,Bool.and_eq_true,Bool.not_eq_true'] at e;simp only[List.map_cons,List.cons.injEq] at h1 h2;exact BK.cons e.1 (bR h1.1) h2.1 O (bkR e.2 h1.2 h2.2)
abbrev ro(o:IOp):RO:=⟨⟨none,o⟩,0,[]⟩
abbrev rT(t:Nat)(o:IOp):RO:=⟨⟨some (t,true),o⟩,0,[]⟩
abbrev rN(t:Nat)(o:IOp):RO:=⟨⟨some (t,false),o⟩,0,[]⟩
abbrev rM(d t:Nat):RO:=⟨⟨none,.mov d<|.t t⟩,0,[]⟩
abbrev rF(d m t:Nat):RO:=⟨⟨none,.faddr d m<|.t t⟩,0,[]⟩
abbrev rL(d t:Nat):RO:=⟨⟨none,.load d none<|.t t⟩,0,[]⟩
abbrev c6(n:Int):Opd:= .c (.one<|.d<|.int .i64 n)
abbrev cB(b:Bool):Opd:= .c (.one<|.d<|.bool b)
abbrev oI(n:Int):V:= .one (.d<|.int .i64 n)
abbrev oB(b:Bool):V:= .one (.d<|.bool b)
abbrev dI(n:Int):C:= .d (.int .i64 n)
section
variable {P:Program} {n:Nat} {Q:Exit→St→Prop} {s:St} {l r:bg} {h:bh} {g:Nat→V}
theorem kR{k:Nat}{ns:List Nat}{v:V}(h1:lkO l k=some v)(h2:v.er ns=v)(H:SL l ns r):SL l ns ((k,v)::r):=SL.cons (eR h1) h2 VWk.rfl H
theorem kv(k:Nat){ns:List Nat}(v:V)(h1:lkO l k=some v)(h2:v.er ns=v)(H:SL l ns r):SL l ns ((k,v)::r):=SL.cons (eR h1) h2 VWk.rfl H
theorem En:Evs l [] []:=Evs.nil
theorem Ec{x:Opd}{v:V}{xs:List Opd}{vs:List V}(h1:Ev l x v)(h2:Evs l xs vs):Evs l (x::xs) (v::vs):=Evs.cons h1 h2
theorem Vn:VDs h [] []:=VDs.nil
theorem Vc{v:V}{vs:List V}{e:D}{es:List D}(h1:VD h v e)(h2:VDs h vs es):VDs h (v::vs) (e::es):=VDs.cons h1 h2
theorem Vp{y:D}:VD h (.one<|.d y) y:=VD.plain
theorem lm{α β:Type}{f:α→β}{xs:List α}:(xs.map f).length=xs.length:=List.length_map f
theorem fle{a b:Nat}(h:Nat.ble a b=true):a≤b:=Nat.le_of_ble_eq_true h
end
theorem dT{p:Prop}[Decidable p](h:p):decide p=true:=decide_eq_true h
theorem dF{p:Prop}[Decidable p](h:¬p):decide p=false:=decide_eq_false h
theorem cN{a b:Bool}(h:a=b):(!a)= !b:=congrArg Bool.not h
def FI(P:Program)(n:Nat)(ic:IC)(ts:List ZG)(f:FuncId):Prop:=∀{ds rs:List D},ds.length≤n→AW P n ic (ziJ ts rs) (zfD ds)→Fn P f (lent ds) true rs
theorem fi{P:Program}{f:FuncId}{fn:Func}{n:Nat}{hints h':Qy}{ic:IC}{ts:List ZG}(hcall:callable P f=true)(hf:P.funcs[f]? =some fn)
  (hn:fn.ntmps=n) (hic:(fn.body.bind fun c=>qI P n c hints)=some (ic,h')) (hres:fn.results.toList.mapM (K3 P)=some ts):FI P n ic ts f:=fun hle h=>zjm hcall hf hn hic hres hle h.h
theorem zFg{α β γ δ:Type}{a a':α}{b b':β}{c c':γ}{d d':δ}(h:(a,b,c,d)=(a',b',c',d')):a=a'∧b=b'∧c=c'∧d=d':=by
 injection h with h1 h;injection h with h2 h;injection h with h3 h4;exact⟨h1,h2,h3,h4⟩
theorem fK{P:Program}{f:FuncId}{fn:Func}{n:Nat}{ic:IC}{ts:List ZG}(hf:P.funcs[f]? =some fn)(hints:Qy)(h:(callable P f,fn.ntmps,(fn.body.bind fun c=>qI P n c hints),fn.results.toList.mapM<|K3 P)=(true,n,some (ic,[]),some ts)):FI P n ic ts f:=by
 obtain⟨h1,h2,h3,h4⟩:=zFg h;exact fi h1 hf h2 h3 h4
def FB(P:Program)(n:Nat)(ic:IC)(ts:List ZG)(f:FuncId):Prop:=∀{ds rs:List D},ds.length≤n→AW P n ic (zgQ ts rs) (zfD ds)→Fn P f (lent ds) false rs
theorem fb{P:Program}{f:FuncId}{fn:Func}{n:Nat}{hints h':Qy}{ic:IC}{ts:List ZG}(hcall:callable P f=true)(hf:P.funcs[f]? =some fn)
  (hn:fn.ntmps=n) (hic:(fn.body.bind fun c=>qI P n c hints)=some (ic,h')) (hres:fn.results.toList.mapM (K3 P)=some ts):FB P n ic ts f:=fun hle h=>zhX hcall hf hn hic hres hle h.h
def FM(P:Program)(n:Nat)(ic:IC)(ts:List ZG)(f:FuncId):Prop:=∀{ars:List Ar} {rs:List D},ars.length≤n→qp ⟨fun _=> .top,fun _=>none,fun _=> .top⟩ ((ZH 0 ars).2.map (·.1))→((ZH 0 ars).2.map (·.1)).all (fun n=>Nat.ble n 1999999)=true→AW P n ic (X5 ars ts rs) (zcR ars)→Fn P f ars true rs
theorem fm{P:Program}{f:FuncId}{fn:Func}{n:Nat}{hints h':Qy}{ic:IC}{ts:List ZG}(hcall:callable P f=true)(hf:P.funcs[f]? =some fn)
  (hn:fn.ntmps=n) (hic:(fn.body.bind fun c=>qI P n c hints)=some (ic,h')) (hres:fn.results.toList.mapM (K3 P)=some ts):FM P n ic ts f:=fun hle hfr hlt h=>Fn.introM' hcall hf hn hic hres hle hfr hlt h.h
theorem mK{P:Program}{f:FuncId}{fn:Func}{n:Nat}{ic:IC}{ts:List ZG}(hf:P.funcs[f]? =some fn)(hints:Qy)(h:(callable P f,fn.ntmps,(fn.body.bind fun c=>qI P n c hints),fn.results.toList.mapM<|K3 P)=(true,n,some (ic,[]),some ts)):FM P n ic ts f:=by
 obtain⟨h1,h2,h3,h4⟩:=zFg h;exact fm h1 hf h2 h3 h4
def FCu(P:Program)(n:Nat)(ic:IC)(ts:List ZG)(f:FuncId):Prop:=∀{pv:Value} {x:D} {ars:List Ar} {rs:List D},ars.length≤n→ars.length≤63→qp ⟨fun _=> .top,fun _=>none,fun _=> .top⟩ ((ZH 0 ars).2.map (·.1))→((ZH 0 ars).2.map (·.1)).all (fun n=>Nat.ble n 1999999)=true→AW P n ic (X5 ars ts rs) (zfn pv x ars)→FnC P pv x f ars rs
theorem fc{P:Program}{f:FuncId}{fn:Func}{n:Nat}{hints h':Qy}{ic:IC}{ts:List ZG}(hcall:callable P f=true)(hf:P.funcs[f]? =some fn)
  (hn:fn.ntmps=n) (hic:(fn.body.bind fun c=>qI P n c hints)=some (ic,h')) (hres:fn.results.toList.mapM (K3 P)=some ts):FCu P n ic ts f:=fun hle hle' hfr hlt h=>FnC.introM' hcall hf hn hic hres hle hle' hfr hlt h.h
def sidx(b:ByteArray)(z:Int):Option Int:=if 0≤z then(b[z.toNat]?).map (fun c=>(c.toNat:Int)) else none
section
variable {P:Program} {l:bg} {h:bh} {g:Nat→V} {Q:St→Prop} {rs:List RO} {dep:Nat} {A:List Nat} {d:Nat} {x y z:Opd} {k:IntKind} {a:Int}
theorem zbe{b:ByteArray}{v:Int}(hx:Ev l x (.one<|.d<|.str b))(hy:Ev l y (.one<|.d<|.int k a))(hi:sidx b a=some v)(K:RG P rs (mk ((d,.one<|.d<|.int .u8 v)::l) h g) Q):RG P (⟨⟨none,.sidx d x y⟩,dep,A⟩::rs) (mk l h g) Q:=by
 unfold sidx at hi;split at hi
 ·rename_i h0;simp only[omi] at hi;obtain⟨c,hc,rfl⟩:=hi;exact qA (by simp) (by simp[AW.ev,hx.ev,hy.ev,h0,hc]) K
 ·cases hi
end
end Go.AW
namespace Go.AW
theorem zt.swapB{cx:Cx}{m:M}{s:St}{a:Act}{w:World}(R:zt cx m s a w){n:Nat}{k k':Blk}(hk:s.hp n=some k)(H:∀f,m.inf n=some f→zT cx m w.heap n (some k) (some f)→zT cx m w.heap n (some k') (some f)):zt cx m (s.blk n k') a w:=by
 refine⟨R.size,R.defers,R.sl,fun j=> ?_,R.own,R.fr,R.gh⟩;show zT cx m w.heap j (if j=n then some k' else s.hp j) _;by_cases e:j=n
 ·subst e;rw[if_pos rfl];have A:=R.hp j;rw[hk] at A;cases hi:m.inf j with
  |none=>rw[hi] at A;exact A.elim
  |some f=>rw[hi] at A;exact H f hi A
 ·rw[if_neg e];exact R.hp j
theorem zT.cell{cx:Cx}{m:M}{h:Hp}{n sz i j:Nat}{f:NI}{X:List (List D)}{cp:Option Nat}{e:List D}{d:D}(A:zT cx m h n (some<|.data sz X true cp) (some f))(hxe:X[i]? =some e)(hej:e[j]? =some d):
  ∃u bu,Rd true h d u bu∧(∀b∈bu,m.own b=some n∧f.blk≠some b)∧∀d',d'.isCell=true→Rd true h d' u bu→zT cx m h n (some<|.data sz (X.set i<|e.set j d') true cp) (some f):=by
 unfold zT at A;cases hb:f.blk with
 |none=>
  simp only[hb] at A;obtain⟨_,_,_,_,e0,_⟩:=A;cases e0;simp at hxe
 |some b=>
  simp only[hb] at A;obtain⟨g1,g2,cells,T,g4,g5,g6,g6',bs,g8,g9,g10⟩:=A;obtain⟨u,bu,p,q,hu,hr,rfl,hset⟩:=g8.focus hxe hej;obtain⟨hnd,hown⟩:=g9 rfl;refine⟨u,bu,hr,fun c hc=>by rw[←hb];exact hown c (by simp[hc]),fun d' hc hd'=> ?_⟩;unfold zT;simp only[hb];exact⟨g1,g2,cells,T,g4,g5,g6,g6',p++bu++q,hset h d' bu (fun _ _=>rfl) hc hd',fun _=>⟨hnd,hown⟩,fun h=>by cases h⟩
section
variable {P:Program} {nn:Nat} {L:List RO} {Q:St→Prop} {l l' gl gl':bg} {h h':bh} {g:Nat→V}
theorem zl.swap{α β:Type}{R:α→β→Prop}{c':α}:∀{as:List α} {bs:List β} {i:Nat} {c:α},zl R as bs→as[i]? =some c→(∀b,R c b→R c' b)→zl R (as.set i c') bs
 |[],_,_,_,_,h,_=>by simp at h
 |a::as,[],_,_,H,_,_=>H.elim
 |a::as,b::bs,0,c,H,h,k=>by
  simp only[List.getElem?_cons_zero,Option.some.injEq] at h;subst h;exact⟨k _ H.1,H.2⟩
 |a::as,b::bs,i+1,c,H,h,k=>⟨H.1,zl.swap H.2 (by simpa using h) k⟩
theorem zT.var{cx:Cx}{m:M}{hp:Hp}{n sz:Nat}{f:NI}{cs cs':List C}(A:zT cx m hp n (some<|.vars sz cs) (some f))(H:∀L,zl (qE m hp) cs L→zl (qE m hp) cs' L):zT cx m hp n (some<|.vars sz cs') (some f):=by
 unfold zT at A ⊢;cases hb:f.blk with
 |none=>
  simp only[hb] at A;obtain⟨_,_,_,_,e0,_⟩:=A;cases e0
 |some b=>
  simp only[hb] at A ⊢;obtain⟨g1,g2,cells,T,g4,g5,g6,g7⟩:=A;exact⟨g1,g2,cells,T,g4,g5,g6,H _ g7⟩
end
section
variable {P:Program} {nn:Nat} {L:List RO} {Q:St→Prop} {l l' gl gl':bg} {h h':bh}
end
section
variable {P:Program} {nn:Nat} {L:List RO} {Q:St→Prop} {l l' gl gl':bg} {h h':bh} {g:Nat→V} {d:Nat} {x y:Opd} {s t:St}
theorem HS.appAbs{s:St}{d sz bytes:Nat}{zs:List D}{x' y':Opd}{n len yn:Nat}{xs:List (List D)}{cp:Option Nat}{cs:List C}{ds:List D}{ns:List Nat}(hxv:s.ev x'= .one (.sl n 0 len))(hk:s.hp n=some (.data sz xs true cp))(hlen:len=xs.length)(hyv:s.ev y'= .one (.sl yn 0 1))(hyk:s.hp yn=some (.vars sz cs))(hcl:cs.length=sz)
  (hO:cOs s cs ds ns) (hnd:ns.Nodup) (hnn:n∉ns) (hlt:∀k∈ns,k < 1000000) (hn1:n < 1000000) (hb1:xs.length+1≤big) (hb2:bytes≤65536):
  HS s (.app d sz bytes zs x' y') ((((s.er ns).er [n]).blk n<|.data sz (xs++[ds]) true none).set d<|.one<|.sl n 0 (xs.length+1)):=fun cx m o a w K Q ho R hK=>by
 obtain⟨x,y,t,e,i,z,hop,ht,hi,hz,rfl,hzs,rfl,hd,hdn,hx,hy⟩:=zha ho;exact zd7 R hop ht hi hz hzs hd hdn hx hy hxv hk hlen hyv hyk hcl hO hnd hnn hlt hn1 hb1 hb2 hK
theorem zgJ{α:Type}{f:α→List D}{n len yn sz bytes q:Nat}{zs:List D}{cs:List C}{ds:List D}{ns:List Nat}{cp:Option Nat}{xs:List α}{t:α}{l1 l2 gl1 gl2:bg}{hh1 hh2:bh}(hx:Ev l x (.one<|.sl n 0 len))(hy:Ev l y (.one<|.sl yn 0 1))(hb:LB h n (.data sz (xs.map f) true cp))(hl:xs.length=len)(hyb:LB h yn (.vars sz cs))(hcl:cs.length=sz)
  (hO:VOs h cs ds ns) (hok:KU n ns=true) (hn:Nat.blt n 1000000=true) (hds:ds=f t) (hq:(xs++[t]).length=q) (hle:q≤2147483648) (hby:bytes≤65536) (h1:erL ns l l1) (h2:erH ns h hh1) (h3:erL ns gl gl1) (h4:erL [n] l1 l2) (h5:erH [n] hh1 hh2) (h6:erL [n] gl1 gl2)
  (K:RUs P L (mk ((d,.one<|.sl n 0 q)::l2) ((n,.data sz ((xs++[t]).map f) true none)::hh2)<|lk gl2) Q):RUs P (⟨⟨none,.app d sz bytes zs x y⟩,0,[]⟩::L) (mk l h<|lk gl) Q:=by
 subst hl;subst hq;subst hds;unfold KU at hok;simp only[Bool.and_eq_true,decide_eq_true_eq,Bool.not_eq_true',List.all_eq_true] at hok;refine⟨.inr ⟨rfl,.inr<|.inr ⟨_,rfl,HS.appAbs (n:=n) (yn:=yn) (ds:=f t) (ns:=ns) hx.ev hb (by simp) hy.ev hyb hcl hO.cOs hok.1.1 (fun hm=>by have:=hok.1.2;rw[List.contains_iff_mem.2 hm] at this;cases this) (fun k hk=>by have:=hok.2 k hk;rwa [Nat.blt_eq] at this) (by rwa [Nat.blt_eq] at hn) (by unfold big;simp at hle ⊢;omega) hby,?_⟩⟩⟩;rw[zcY h1 h2 h3,zcY h4 h5 h6];have K:=K.out;simp only[List.map_append,List.map_cons,List.map_nil,List.length_append,List.length_cons,List.length_nil,Nat.zero_add] at K;rw[List.length_map];exact K
end
end Go.AW
namespace Go.AW
variable {P:Program} {l l' gl gl':bg} {h h':bh} {g:Nat→V} {Q:AW.St→Prop} {rs:List RO} {dep d:Nat} {A:List Nat} {x y:Opd} {v u:V} {nn:Nat} {L:List RO}
def zdJ(f:Int):Nat:=if f=70 then 1 else if f=86 then 2 else if f=79 then 3 else if f=67 then 4 else if f=78 then 5 else if f=110 then 6 else if f=99 then 7 else if f=114 then 8 else 9
def zf4(f a1 a2 a3 a4 a5 a6 a7 a8 a9:Int):Int:=if f=70 then a1 else if f=86 then a2 else if f=79 then a3 else if f=67 then a4 else if f=78 then a5 else if f=110 then a6 else if f=99 then a7 else if f=114 then a8 else a9
def Km(i:Nat)(f z a:Int):Int:=if zdJ f=i then z else a
theorem zmf(f:Int):1≤zdJ f∧zdJ f≤9:=by
 unfold zdJ
 repeat' split
 all_goals decide
theorem zia{n k:Nat}{c0:C}{r:List C}{f a1 a2 a3 a4 a5 a6 a7 a8 a9:Int}(hx:Ev l x (.one<|.ptr<|.nm n 0 (0+zdJ f)))(hb:LB (zZ A h) n (.vars k (c0::dI a1::dI a2::dI a3::dI a4::dI a5::dI a6::dI a7::dI a8::dI a9::r)))
  (K:RG P rs (mk ((d,.one<|.d<|.int .i64<|zf4 f a1 a2 a3 a4 a5 a6 a7 a8 a9)::l) h g) Q):RG P (⟨⟨none,.load d none x⟩,dep,A⟩::rs) (mk l h g) Q:=by
 have hb:(mk l (zZ A h) g).hp n=some (.vars k _):=hb;refine qA (by simp) ?_ K;simp only[AW.ev,hx.ev,St.rd,hb,Nat.zero_mul,Nat.zero_add];unfold zdJ zf4
 repeat' split
 all_goals first|rfl|(rename_i h _;exfalso;simp at h;done)|(simp at *;done)
theorem zkb{n k:Nat}{zs:List D}{c0:C}{r:List C}{f a1 a2 a3 a4 a5 a6 a7 a8 a9 z:Int}(hx:Ev l x (.one<|.ptr<|.nm n 0 (0+zdJ f)))(hy:Ev l y (.one<|.d<|.int .i64 z))(hb:LB (zZ A h) n (.vars k (c0::dI a1::dI a2::dI a3::dI a4::dI a5::dI a6::dI a7::dI a8::dI a9::r)))
  (K:RG P rs (mk l ((n,.vars k (c0::dI (Km 1 f z a1)::dI (Km 2 f z a2)::dI (Km 3 f z a3)::dI (Km 4 f z a4)::dI (Km 5 f z a5)::dI (Km 6 f z a6)::dI (Km 7 f z a7)::dI (Km 8 f z a8)::dI (Km 9 f z a9)::r))::h) g) Q):RG P (⟨⟨none,.store 1 zs x y⟩,dep,A⟩::rs) (mk l h g) Q:=by
 have hb:(mk l (zZ A h) g).hp n=some (.vars k _):=hb;refine xSt (by simp) ?_ K;simp only[AW.ev,hx.ev,hy.ev,V.cells,Option.bind_some,List.length_singleton,if_true,St.wr,hb,Nat.zero_mul,Nat.zero_add];obtain⟨h1,h2⟩:=zmf f;unfold Km;generalize zdJ f=q at h1 h2 ⊢;rcases(by omega:q=1∨q=2∨q=3∨q=4∨q=5∨q=6∨q=7∨q=8∨q=9) with rfl|rfl|rfl|rfl|rfl|rfl|rfl|rfl|rfl<;>simp[splice]
end Go.AW
namespace Go.AW
def zkk(ns:List Nat)(cs:List C):Bool:=cs.all fun c=>!c.has ns
def V.nh(ns:List Nat):V→Bool
 | .top=>true
 | .one c=>!c.has ns
 | .agg cs=>zkk ns cs
 | .tup vs=>vs.all fun| .top=>true| .one c=>!c.has ns| .agg cs=>zkk ns cs| .tup _=>true
def Blk.nh(ns:List Nat):Blk→Bool
 | .vars _ cs=>zkk ns cs
 |_=>true
theorem C.er_nh{ns:List Nat}{c:C}(h:(!c.has ns)=true):c.er ns=c:=by
 unfold C.er;rw[if_neg];simpa using h
theorem zde{ns:List Nat}:∀{cs:List C},zkk ns cs=true→cs.map (C.er ns)=cs
 |[],_=>rfl
 |c::cs,h=>by
  have h:(!c.has ns&&zkk ns cs)=true:=h;simp only[Bool.and_eq_true] at h;simp only[List.map_cons,C.er_nh h.1,zde h.2]
theorem V.er_nh{ns:List Nat}{v:V}(h:v.nh ns=true):v.er ns=v:=by
 cases v with
 |top=>rfl
 |one c=>show V.one _=_;rw[C.er_nh h]
 |agg cs=>show V.agg _=_;rw[zde h]
 |tup vs=>
  show V.tup _=_;congr 1;have h:∀x∈vs,_:=List.all_eq_true.1 h
  conv=>rhs;rw[←List.map_id vs]
  refine List.map_congr_left fun x hx=> ?_;have:=h x hx;cases x with
  |top=>rfl
  |one c=>show V.one _=_;rw[C.er_nh this];rfl
  |agg cs=>show V.agg _=_;rw[zde this];rfl
  |tup us=>rfl
theorem Blk.er_nh{ns:List Nat}{b:Blk}(h:b.nh ns=true):b.er ns=b:=by
 cases b with
 |data=>rfl
 |vars sz cs=>show Blk.vars sz _=_;rw[zde h]
 |own=>rfl
theorem eT{ns:List Nat}:∀{l:bg},(l.all fun p=>p.2.nh ns)=true→erL ns l l
 |[],_=>rfl
 |(k,v)::r,h=>by
  simp only[List.all_cons,Bool.and_eq_true] at h;exact⟨v,r,V.er_nh h.1,rfl,eT h.2⟩
theorem eK{ns:List Nat}{k:Nat}{v:V}{r r':bg}(h1:v.nh ns=true)(h2:erL ns r r'):erL ns ((k,v)::r) ((k,v)::r'):=⟨v,r',V.er_nh h1,rfl,h2⟩
theorem hT{ns:List Nat}:∀{l:bh},(l.all fun p=>!ns.contains p.1&&p.2.nh ns)=true→erH ns l l
 |[],_=>rfl
 |(k,v)::r,h=>by
  simp only[List.all_cons,Bool.and_eq_true,Bool.not_eq_true'] at h;exact .inr ⟨h.1.1,v,r,Blk.er_nh h.1.2,rfl,hT h.2⟩
theorem hK{ns:List Nat}{k:Nat}{v:Blk}{r r':bh}(h1:(!ns.contains k&&v.nh ns)=true)(h2:erH ns r r'):erH ns ((k,v)::r) ((k,v)::r'):=by
 simp only[Bool.and_eq_true,Bool.not_eq_true'] at h1;exact .inr ⟨h1.1,v,r',Blk.er_nh h1.2,rfl,h2⟩
theorem Wk.after{r s t:AW.St}(h1:Wk s r)(h2:Wk t s):Wk t r:=Wk.trans h2 h1
end Go.AW
namespace Go.AW
variable {P:Program} {l l' gl gl':bg} {h h':bh} {g:Nat→V} {Q:AW.St→Prop} {rs:List RO} {dep d:Nat} {A:List Nat} {x y:Opd} {v u:V} {nn:Nat} {L:List RO} {k:IntKind} {a:Int}
theorem zIU(hx:Ev l x (.one<|.d<|.int k a))(K:RG P rs (mk ((d,.one<|.d<|.int k<|zhP k a)::l) h g) Q):RG P (⟨⟨none,.cpl d x⟩,dep,A⟩::rs) (mk l h g) Q:=
 qA (by simp) (by simp[AW.ev,hx.ev]) K
theorem zJr{b:ByteArray}{f:Int→List D}(hf:f=fun n=>[.int .u8 n])(hx:Ev l x (.one<|.d<|.str b))(K:RG P rs (mk ((d,.one<|.d<|.sl 1<|(Zn b).map f)::l) h g) Q):RG P (⟨⟨none,.s2b d x⟩,dep,A⟩::rs) (mk l h g) Q:=by
 subst hf;exact qA (by simp) (by simp[AW.ev,hx.ev]) K
theorem zhS(xs:List Int):(xs.map fun n=>[D.int .u8 n]).mapM zgp=some xs:=by
 induction xs with
 |nil=>rfl
 |cons x xs ih=>simp[List.mapM_cons,ih,zgp]
theorem zIJ{f:Int→List D}{xs:List Int}(hf:f=fun n=>[.int .u8 n])(hx:Ev l x (.one<|.d<|.sl 1<|xs.map f))(K:RG P rs (mk ((d,.one<|.d<|.str<|KT xs)::l) h g) Q):RG P (⟨⟨none,.b2s d x⟩,dep,A⟩::rs) (mk l h g) Q:=by
 subst hf;exact qA (by simp) (by simp only[AW.ev,hx.ev,zhS];rfl) K
end Go.AW
