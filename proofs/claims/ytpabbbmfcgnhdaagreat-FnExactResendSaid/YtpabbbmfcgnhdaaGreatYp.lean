/- A slice that lies in a variable and in a row of its own as well: the row's cell is held to be that value, so that a store through it is a store to the row. Lemmas. Conditions: none. -/
import Derived.Test.YtpabbbmfcgnhdaaGreatYk
set_option linter.unusedVariables false
namespace Go.AW
theorem zH.swapB{cx:Cx}{m:M}{s:St}{a:Act}{w:World}(R:zH cx m s a w){n:Nat}{k k':Blk}(hk:s.hp n=some k)(H:∀f,m.inf n=some f→zY cx m w.heap n (some k) (some f)→zY cx m w.heap n (some k') (some f)):zH cx m (s.blk n k') a w:=by
 refine⟨R.size,R.defers,R.sl,fun j=> ?_,R.own,R.fr,R.gh⟩;show zY cx m w.heap j (if j=n then some k' else s.hp j) _;by_cases e:j=n
 ·subst e;rw[if_pos rfl];have A:=R.hp j;rw[hk] at A;cases hi:m.inf j with
  |none=>rw[hi] at A;exact A.elim
  |some f=>rw[hi] at A;exact H f hi A
 ·rw[if_neg e];exact R.hp j
theorem zY.cell{cx:Cx}{m:M}{h:Hp}{n sz i j:Nat}{f:NI}{X:List (List D)}{cp:Option Nat}{e:List D}{d:D}(A:zY cx m h n (some<|.data sz X true cp) (some f))(hxe:X[i]? =some e)(hej:e[j]? =some d):
  ∃u bu,Rd true h d u bu∧(∀b∈bu,m.own b=some n∧f.blk≠some b)∧∀d',d'.isCell=true→Rd true h d' u bu→zY cx m h n (some<|.data sz (X.set i<|e.set j d') true cp) (some f):=by
 unfold zY at A;cases hb:f.blk with
 |none=>
  simp only[hb] at A;obtain⟨_,_,_,_,e0,_⟩:=A;cases e0;simp at hxe
 |some b=>
  simp only[hb] at A;obtain⟨g1,g2,cells,T,g4,g5,g6,g6',bs,g8,g9,g10⟩:=A;obtain⟨u,bu,p,q,hu,hr,rfl,hset⟩:=g8.focus hxe hej;obtain⟨hnd,hown⟩:=g9 rfl;refine⟨u,bu,hr,fun c hc=>by rw[←hb];exact hown c (by simp[hc]),fun d' hc hd'=> ?_⟩;unfold zY;simp only[hb];exact⟨g1,g2,cells,T,g4,g5,g6,g6',p++bu++q,hset h d' bu (fun _ _=>rfl) hc hd',fun _=>⟨hnd,hown⟩,fun h=>by cases h⟩
theorem zH.pin{cx:Cx}{m:M}{s:St}{a:Act}{w:World}(R:zH cx m s a w){n sz i j z:Nat}{X:List (List D)}{cp:Option Nat}{e:List D}{ys:List (List D)}(hk:s.hp n=some (.data sz X true cp))(hxe:X[i]? =some e)(hej:e[j]? =some (.sl z ys)):
  ∃v,zH cx m (s.blk n<|.data sz (X.set i<|e.set j<|.both v<|.sl z ys) true cp) a w:=by
 have A:=R.hp n;rw[hk] at A;cases hi:m.inf n with
 |none=>rw[hi] at A;exact A.elim
 |some f=>
  rw[hi] at A;obtain⟨u,bu,hr,_,hset⟩:=A.cell hxe hej;refine⟨u,R.swapB hk fun f' hf' A'=> ?_⟩;rw[hi] at hf';cases hf';exact hset _ O (by simp only[Rd] at hr ⊢;exact⟨⟨trivial,by obtain⟨_,_,rfl,_⟩:=hr;rfl⟩,hr⟩)
section
variable {P:Program} {nn:Nat} {L:List RO} {Q:St→Prop} {l l' gl gl':bB} {h h':bC} {g:Nat→V}
theorem zw.swap{α β:Type}{R:α→β→Prop}{c':α}:∀{as:List α} {bs:List β} {i:Nat} {c:α},zw R as bs→as[i]? =some c→(∀b,R c b→R c' b)→zw R (as.set i c') bs
 |[],_,_,_,_,h,_=>by simp at h
 |a::as,[],_,_,H,_,_=>H.elim
 |a::as,b::bs,0,c,H,h,k=>by
  simp only[List.getElem?_cons_zero,Option.some.injEq] at h;subst h;exact⟨k _ H.1,H.2⟩
 |a::as,b::bs,i+1,c,H,h,k=>⟨H.1,zw.swap H.2 (by simpa using h) k⟩
theorem zY.var{cx:Cx}{m:M}{hp:Hp}{n sz:Nat}{f:NI}{cs cs':List C}(A:zY cx m hp n (some<|.vars sz cs) (some f))(H:∀L,zw (qJ m hp) cs L→zw (qJ m hp) cs' L):zY cx m hp n (some<|.vars sz cs') (some f):=by
 unfold zY at A ⊢;cases hb:f.blk with
 |none=>
  simp only[hb] at A;obtain⟨_,_,_,_,e0,_⟩:=A;cases e0
 |some b=>
  simp only[hb] at A ⊢;obtain⟨g1,g2,cells,T,g4,g5,g6,g7⟩:=A;exact⟨g1,g2,cells,T,g4,g5,g6,H _ g7⟩
end
section
variable {P:Program} {nn:Nat} {L:List RO} {Q:St→Prop} {l l' gl gl':bB} {h h':bC}
end
section
variable {P:Program} {nn:Nat} {L:List RO} {Q:St→Prop} {l l' gl gl':bB} {h h':bC} {g:Nat→V} {d:Nat} {x y:Opd} {s t:St}
theorem HS.appAbs{s:St}{d sz bytes:Nat}{zs:List D}{x' y':Opd}{n len yn:Nat}{xs:List (List D)}{cp:Option Nat}{cs:List C}{ds:List D}{ns:List Nat}(hxv:s.ev x'= .one (.sl n 0 len))(hk:s.hp n=some (.data sz xs true cp))(hlen:len=xs.length)(hyv:s.ev y'= .one (.sl yn 0 1))(hyk:s.hp yn=some (.vars sz cs))(hcl:cs.length=sz)
  (hO:cOs s cs ds ns) (hnd:ns.Nodup) (hnn:n∉ns) (hlt:∀k∈ns,k < 1000000) (hn1:n < 1000000) (hb1:xs.length+1≤big) (hb2:bytes≤65536):
  HS s (.app d sz bytes zs x' y') ((((s.er ns).er [n]).blk n<|.data sz (xs++[ds]) true none).set d<|.one<|.sl n 0 (xs.length+1)):=fun cx m o a w K Q ho R hK=>by
 obtain⟨x,y,t,e,i,z,hop,ht,hi,hz,rfl,hzs,rfl,hd,hdn,hx,hy⟩:=zbK ho;exact zbX R hop ht hi hz hzs hd hdn hx hy hxv hk hlen hyv hyk hcl hO hnd hnn hlt hn1 hb1 hb2 hK
theorem zh0{α:Type}{f:α→List D}{n len yn sz bytes q:Nat}{zs:List D}{cs:List C}{ds:List D}{ns:List Nat}{cp:Option Nat}{xs:List α}{t:α}{l1 l2 gl1 gl2:bB}{hh1 hh2:bC}(hx:Ev l x (.one<|.sl n 0 len))(hy:Ev l y (.one<|.sl yn 0 1))(hb:LB h n (.data sz (xs.map f) true cp))(hl:xs.length=len)(hyb:LB h yn (.vars sz cs))(hcl:cs.length=sz)
  (hO:VOs h cs ds ns) (hok:Ks n ns=true) (hn:Nat.blt n 1000000=true) (hds:ds=f t) (hq:(xs++[t]).length=q) (hle:q≤2147483648) (hby:bytes≤65536) (h1:erL ns l l1) (h2:erH ns h hh1) (h3:erL ns gl gl1) (h4:erL [n] l1 l2) (h5:erH [n] hh1 hh2) (h6:erL [n] gl1 gl2)
  (K:RUs P L (mk ((d,.one<|.sl n 0 q)::l2) ((n,.data sz ((xs++[t]).map f) true none)::hh2)<|lk gl2) Q):RUs P (⟨⟨none,.app d sz bytes zs x y⟩,0,[]⟩::L) (mk l h<|lk gl) Q:=by
 subst hl;subst hq;subst hds;unfold Ks at hok;simp only[Bool.and_eq_true,decide_eq_true_eq,Bool.not_eq_true',List.all_eq_true] at hok;refine⟨.inr ⟨rfl,.inr<|.inr ⟨_,rfl,HS.appAbs (n:=n) (yn:=yn) (ds:=f t) (ns:=ns) hx.ev hb (by simp) hy.ev hyb hcl hO.cOs hok.1.1 (fun hm=>by have:=hok.1.2;rw[List.contains_iff_mem.2 hm] at this;cases this) (fun k hk=>by have:=hok.2 k hk;rwa [Nat.blt_eq] at this) (by rwa [Nat.blt_eq] at hn) (by unfold big;simp at hle ⊢;omega) hby,?_⟩⟩⟩;rw[XK h1 h2 h3,XK h4 h5 h6];have K:=K.out;simp only[List.map_append,List.map_cons,List.map_nil,List.length_append,List.length_cons,List.length_nil,Nat.zero_add] at K;rw[List.length_map];exact K
end
end Go.AW
