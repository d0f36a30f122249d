/- Rows of rows that are wholly one's own: rules on written-out states. Lemmas. Conditions: none. -/
import Derived.Test.YtpabbbmfcgnhdaaGreatYg
import Derived.Test.YtpabbbmfcgnhdaaGreatXf
set_option linter.unusedVariables false
namespace Go.AW
theorem XK{ns:List Nat}{l l' gl gl':bB}{h h':bC}(h1:erL ns l l')(h2:erH ns h h')(h3:erL ns gl gl'):(mk l h<|lk gl).er ns=mk l' h' (lk gl'):=by
 refine St.ext' (fun t=> ?_) (fun k=> ?_) ?_
 ·exact(h1.lk t).symm
 ·exact(h2.lk k).symm
 ·funext t;exact(h3.lk t).symm
section
variable {P:Program} {nn:Nat} {L rs0:List RO} {Q:St→Prop} {l l' gl gl':bB} {h h':bC} {g:Nat→V} {dep d:Nat} {A:List Nat} {x y:Opd} {v u:V}
theorem zrx{α:Type}{f:α→List D}{zv:α}{sz bytes m q:Nat}{zs:List D}{k k':IntKind}{a:Int}(hn:d * 64=m)(hx:Ev l x (.one<|.d<|.int k a))(hy:Ev l y (.one<|.d<|.int k' a))(ha:0≤a)(hb:a≤2147483648)(hq:a.toNat=q)(hby:bytes≤65536)(hz:zs=f zv)(hf:NB h m)
  (K:RM P nn L (mk ((d,.one<|.sl m 0 q)::l) ((m,.data sz ((List.replicate q zv).map f) true none)::h) g) Q):RM P nn (⟨⟨none,.mksl d sz bytes zs x y⟩,0,[]⟩::L) (mk l h g) Q:=by
 subst hn;subst hq;subst hz;rw[List.map_replicate] at K;refine⟨RM0.mksl (n:=a.toNat) hf ?_ ?_ (by unfold big;omega) hby K.out⟩
 ·rw[hx.ev];simp only[V.nat,if_pos ha]
 ·rw[hy.ev];simp only[V.nat,if_pos ha]
theorem VOs.cOs{cs:List C}{ds:List D}{ns:List Nat}(H:VOs h cs ds ns):cOs (mk l h g) cs ds ns:=by
 have:=VO.aggs H;have:=zgt (s:=mk [] h fun _=> .top) (s':=mk l h g) O this;exact this
def Ks(n:Nat)(ns:List Nat):Bool:=decide ns.Nodup&&!ns.contains n&&ns.all fun k=>Nat.blt k 1000000
theorem zga{α:Type}{f:α→List D}{n i j m sz:Nat}{zs:List D}{cs:List C}{ds:List D}{ns:List Nat}{cp:Option Nat}{xs:List α}{t t':α}(hx:Ev l x (.one<|.ptr<|.nm n i j))(hy:Ev l y v)(hv:v.cells=some cs)(hl:cs.length=m)(hb:LB h n (.data sz (xs.map f) true cp))
  (hi:xs[i]? =some t) (hO:VOs h cs ds ns) (hok:Ks n ns=true) (hc:(if j+m≤(f t).length then some (splice (f t) j ds) else none)=some (f t')) (h1:erL ns l l') (h2:erH ns h h') (h3:erL ns gl gl')
  (K:RM P nn L (mk l' ((n,.data sz ((xs.set i t').map f) true cp)::h')<|lk gl') Q):RM P nn (⟨⟨none,.store m zs x y⟩,0,[]⟩::L) (mk l h<|lk gl) Q:=by
 unfold Ks at hok;simp only[Bool.and_eq_true,decide_eq_true_eq,Bool.not_eq_true',List.all_eq_true] at hok;split at hc
 ·rename_i hle;have hc:=Option.some.inj hc;refine⟨zez (e:=f t) (ds:=ds) (ns:=ns) hx.ev hb (by rw[List.getElem?_map,hi];rfl) (by rw[hy.ev];exact hv) hl hle hO.cOs hok.1.1 (fun hn=>by have:=hok.1.2;rw[List.contains_iff_mem.2 hn] at this;cases this) (fun k hk=>by have:=hok.2 k hk;rwa [Nat.blt_eq] at this) ?_⟩;rw[XK h1 h2 h3,hc,←List.map_set];exact K.out
 ·cases hc
theorem zi9{α β:Type}{f:α→List D}{f':β→List D}{d1 d2 d3 p n i j sz sz':Nat}{x2:Opd}{xs:List α}{ys ys':List β}{cp:Option Nat}{t t':α}{k:FuncId}{v2:D}{rs:List D}(hx:Ev l (.t p) (.one<|.ptr<|.nm n i j))(hb:LB h n (.data sz (xs.map f) true cp))(hi:xs[i]? =some t)
  (hj:(f t)[j]? =some (.sl sz'<|ys.map f')) (hnn:Nat.blt n 1000000=true) (hne:Nat.beq d1 d2=false) (hx2:Ev ((d1,.one .any)::l) x2 (.one<|.d v2)) (hv2:v2.flat=true) (hfn:Fn P k [⟨.sl sz'<|ys.map f',.m<|.sl sz'<|ys'.map f'⟩,⟨v2,.b⟩] true rs)
  (ht:(f t).set j (.sl sz'<|ys'.map f')=f t') (hu:KV rs=u) (h1:erL [zQ n] ((d2,.one<|.d v2)::(d1,.one .any)::l) l') (h2:erH [zQ n] h h') (h3:erL [zQ n] gl gl')
  (K:RM P nn L (mk ((d3,u)::l') ((n,.data sz ((xs.set i t').map f) true cp)::h')<|lk gl') Q):
  RM P nn (⟨⟨none,.load d1 none<|.t p⟩,0,[]⟩::⟨⟨none,.mov d2 x2⟩,0,[]⟩::⟨⟨none,.callv d3 (.c<|.one<|.fn k []) [.t d1,.t d2]⟩,0,[]⟩::L) (mk l h<|lk gl) Q:=by
 subst hu;refine⟨RM0.inner (e:=f t) (ys:=ys.map f') (ys':=ys'.map f') hx.lk hb (by rw[List.getElem?_map,hi];rfl) hj (by rwa [Nat.blt_eq] at hnn) (Nat.ne_of_beq_eq_false hne) hx2.ev hv2 hfn ?_⟩;have e:(((mk l h<|lk gl).set d1<|.one .any).set d2<|.one<|.d v2)=mk ((d2,.one<|.d v2)::(d1,.one .any)::l) h (lk gl):=rfl;rw[e,XK h1 h2 h3,ht,←List.map_set];exact K.out
theorem zb6{α:Type}{f:α→List D}{n len yn sz bytes q:Nat}{zs:List D}{cs:List C}{ds:List D}{ns:List Nat}{cp:Option Nat}{xs:List α}{t:α}{l1 l2 gl1 gl2:bB}{hh1 hh2:bC}(hx:Ev l x (.one<|.sl n 0 len))(hy:Ev l y (.one<|.sl yn 0 1))(hb:LB h n (.data sz (xs.map f) true cp))(hl:xs.length=len)(hyb:LB h yn (.vars sz cs))(hcl:cs.length=sz)
  (hO:VOs h cs ds ns) (hok:Ks n ns=true) (hn:Nat.blt n 1000000=true) (hds:ds=f t) (hq:(xs++[t]).length=q) (hle:q≤2147483648) (hby:bytes≤65536) (h1:erL ns l l1) (h2:erH ns h hh1) (h3:erL ns gl gl1) (h4:erL [n] l1 l2) (h5:erH [n] hh1 hh2) (h6:erL [n] gl1 gl2)
  (K:RM P nn L (mk ((d,.one<|.sl n 0 q)::l2) ((n,.data sz ((xs++[t]).map f) true none)::hh2)<|lk gl2) Q):RM P nn (⟨⟨none,.app d sz bytes zs x y⟩,0,[]⟩::L) (mk l h<|lk gl) Q:=by
 subst hl;subst hq;subst hds;unfold Ks at hok;simp only[Bool.and_eq_true,decide_eq_true_eq,Bool.not_eq_true',List.all_eq_true] at hok;refine⟨RM0.appAbs (n:=n) (yn:=yn) (ds:=f t) (ns:=ns) hx.ev hb (by simp) hy.ev hyb hcl hO.cOs hok.1.1 (fun hm=>by have:=hok.1.2;rw[List.contains_iff_mem.2 hm] at this;cases this) (fun k hk=>by have:=hok.2 k hk;rwa [Nat.blt_eq] at this) (by rwa [Nat.blt_eq] at hn) (by unfold big;simp at hle ⊢;omega) hby ?_⟩;rw[XK h1 h2 h3,XK h4 h5 h6];have K:=K.out;simp only[List.map_append,List.map_cons,List.map_nil,List.length_append,List.length_cons,List.length_nil,Nat.zero_add] at K;rw[List.length_map];exact K
end
theorem zhH(n sz b i:Nat)(ow:Bool){z:Nat}{cs:List C}{l:bB}{h:bC}{g:Nat→V}(hb:LB h b (.vars z cs))(hc:cs[i]? =some .zs)(hf:NB h n):Wk (mk l ((b,.vars z<|cs.set i<|.sl n 0 0)::(n,.data sz [] ow none)::h) g) (mk l h g):=fun cx a w ⟨m,R⟩=>by
 obtain⟨m',R',E,hi⟩:=R.virt (n:=n) (sz:=sz) (own:=ow) hf;have hne:b≠n:=fun e=>by
  subst e;have h1:lkB h b=some (.vars z cs):=hb;have h2:lkB h b=none:=hf;rw[h1] at h2;cases h2
 refine⟨m',R'.size,R'.defers,R'.sl,fun k=> ?_,R'.own,R'.fr,R'.gh⟩;have HJ:=R'.hp k;by_cases e:k=b
 ·subst e;have e1:((mk l h g).blk n<|.data sz [] ow none).hp k=some (.vars z cs):=by
   show(if k=n then _ else lkB h k)=_;rw[if_neg hne];exact hb
  rw[e1] at HJ;show zY cx m' w.heap k (lkB ((k,_)::_) k) (m'.inf k);simp only[lkB,if_true];cases hk:m'.inf k with
  |none=>rw[hk] at HJ;exact HJ.elim
  |some f=>
   rw[hk] at HJ;unfold zY at HJ ⊢;cases hfb:f.blk with
   |none=>
    simp only[hfb] at HJ;obtain⟨_,_,_,_,e0,_⟩:=HJ;cases e0
   |some c=>
    simp only[hfb] at HJ ⊢;obtain⟨g1,g2,cells,T,g4,g5,g6,g7⟩:=HJ;refine⟨g1,g2,cells,T,g4,g5,g6,?_⟩;obtain⟨u,hu,hv1,ad,rfl⟩:=g7.at hc;have hnew:qJ m' w.heap (.sl n 0 0) (.slice ad 0 0):=⟨hv1,⟨none,sz,0⟩,hi,by simp,ad,by simp,by simp⟩;have:=zw.set i hnew g7
    rwa [show cells.toList.set i (.slice ad 0 0)=cells.toList by
     obtain⟨hlt,he⟩:=List.getElem?_eq_some_iff.1 hu;rw[←he,List.set_getElem_self]] at this
 ·have e1:((mk l h g).blk n<|.data sz [] ow none).hp k=lkB ((n,.data sz [] ow none)::h) k:=rfl;rw[e1] at HJ;show zY cx m' w.heap k (lkB ((b,_)::_) k) (m'.inf k);simp only[lkB,if_neg e];exact HJ
end Go.AW
