/- Special operations in a region with an order: what is made, stored and appended so that it is wholly the block's own. Lemmas. Conditions: none. -/
import Derived.Test.YtpabbbmfcgnhdaaGreatXe
set_option linter.unusedVariables false
namespace Go.AW
variable {cx:Cx} {m:M} {s:St} {a:Act} {w:World} {o:Oper} {K:Act→World→Prop} {Q:Exit→Act→World→Prop}
theorem RM0.step{P:Program}{nn:Nat}{L:List RO}{s s1:St}{io:IOp}{Q':St→Prop}
  (h:∀(cx:Cx) (m:M) (o:Oper) (a:Act) (w:World) (K:Act→World→Prop) (Q:Exit→Act→World→Prop),x9 cx.P cx.n o=some io→zt cx m s a w→(∀m' a' w',zt cx m' s1 a' w'→K a' w')→o.wp cx.P a w K Q)
  (h':RM0 P nn L s1 Q'):RM0 P nn (⟨⟨none,io⟩,0,[]⟩::L) s Q':=fun gs hL cx ops l m a w Qx hP hn hm R hQ=>by
 subst hP;subst hn;cases gs with
 |nil=>cases hL
 |cons g gs=>
  simp only[List.map_cons,List.cons.injEq,RO.mk.injEq,and_true] at hL;obtain⟨rfl,hL⟩:=hL;cases l with
  |nil=>simp at hm
  |cons o l=>
   simp only[List.mapM_cons,Option.pure_def,Option.bind_eq_bind,obi] at hm;obtain⟨g',hg,gs',hgs,he⟩:=hm;cases he;obtain⟨h1,h2,_⟩:=Y4 hg;have:=h cx m o a w (wpList cx.P ops Qx l) Qx h1 R fun m' a' w' R'=>h' gs hL cx ops l m' a' w' Qx O O hgs R' hQ;unfold wpList;have hw:Region.wanted o (yielded ops a.tmps)=true:=by simp[Region.wanted,h2 rfl]
   rw[if_pos hw];exact .inl this
def IOp.callish:IOp→Bool
 | .len .. | .app .. | .apm .. | .mm .. | .clear .. | .cap .. | .copy .. | .callv ..=>true
 |_=>false
theorem zah{P:Program}{n:Nat}{o:Oper}{c:Call}{io:IOp}(h:Qa P n o c=some io):io.callish=true:=by
 obtain⟨callee,args,ts⟩:=c;unfold Qa at h;simp only at h;split at h
 ·simp only[obi,omi] at h;obtain⟨x,hx0,d,hd,t,ht,st,hst,x',hx,rfl⟩:=h;rfl
 ·simp only[obi] at h;obtain⟨xy,hxy,tu,htu,h⟩:=h;split at h;rotate_left
  ·simp only[obi] at h;obtain⟨kn,hkn,d,hd,e,he',i,hi,z,hz,zs,hzs,h⟩:=h;split at h;rotate_left
   ·cases h
   simp only[obi,omi] at h;obtain⟨x',hx,y',hy,rfl⟩:=h;rfl
  simp only[obi] at h;obtain⟨d,hd,e,he',i,hi,z,hz,h⟩:=h;split at h;rotate_left
  ·cases h
  simp only[obi,omi] at h;obtain⟨x',hx,y',hy,rfl⟩:=h;rfl
 ·simp only[obi,omi] at h;obtain⟨xy,hxy,d,hd,x',hx,y',hy,rfl⟩:=h;rfl
 ·simp only[obi,omi] at h;obtain⟨xy,hxy,d,hd,x',hx,y',hy,rfl⟩:=h;rfl
 ·simp only[obi] at h;obtain⟨x,hx0,t,ht,e,he',i,hi,z,hz,zs,hzs,h⟩:=h;split at h;rotate_left
  ·cases h
  simp only[omi] at h;obtain⟨x',hx,rfl⟩:=h;rfl
 ·simp only[obi,omi] at h;obtain⟨x,hx0,t,ht,d,hd,e,he',x',hx,rfl⟩:=h;rfl
 ·simp only[obi,omi] at h;obtain⟨xy,hxy,t,ht,d,hd,e,he',i,hi,x',hx,y',hy,rfl⟩:=h;rfl
 ·simp only[obi,omi] at h;obtain⟨d,hd,f',hf,xs',hxs,rfl⟩:=h;rfl
 ·cases h
theorem zhr{P:Program}{n:Nat}{o:Oper}{c:Call}{d sz bytes:Nat}{zs:List D}{x' y':Opd}(h:Qa P n o c=some (.app d sz bytes zs x' y')):
  ∃x y t e i z,c={callee:= .builtin .append,args:=#[x,y],argTypes:=#[t,t]}∧P.underlying t=some (.slice e)∧P.info? e=some i∧i.zero=some z∧i.size=sz∧z.cells.size=sz∧i.bytes=bytes∧o.dst=some d∧d < n∧zJ x=some x'∧zJ y=some y':=by
 obtain⟨callee,args,ts⟩:=c;unfold Qa at h;simp only at h;split at h
 ·simp only[obi,omi] at h;obtain⟨x,hx0,d,hd,t,ht,st,hst,x',hx,h⟩:=h;cases h
 ·simp only[obi] at h;obtain⟨xy,hxy,tu,htu,h⟩:=h;split at h;rotate_left
  ·simp only[obi] at h;obtain⟨kn,hkn,d,hd,e,he',i,hi,z,hz,zs,hzs,h⟩:=h;split at h;rotate_left
   ·cases h
   simp only[obi,omi] at h;obtain⟨x',hx,y',hy,h⟩:=h;cases h
  rename_i heq;simp only[obi] at h;obtain⟨d,hd,e,he',i,hi,z,hz,h⟩:=h;split at h;rotate_left
  ·cases h
  rename_i hzs;simp only[obi,omi] at h;obtain⟨x',hx,y',hy,h⟩:=h;cases h;have h1:=Qj hxy;have h2:=Qj htu;subst h1;subst h2;rw[←heq];exact⟨xy.1,xy.2,tu.1,e,i,z,rfl,jf he',hi,hz,rfl,hzs,rfl,(zd hd).1,(zd hd).2,hx,hy⟩
 ·simp only[obi,omi] at h;obtain⟨xy,hxy,d,hd,x',hx,y',hy,h⟩:=h;cases h
 ·simp only[obi,omi] at h;obtain⟨xy,hxy,d,hd,x',hx,y',hy,h⟩:=h;cases h
 ·simp only[obi] at h;obtain⟨x,hx0,t,ht,e,he',i,hi,z,hz,zs,hzs,h⟩:=h;split at h;rotate_left
  ·cases h
  simp only[omi] at h;obtain⟨x',hx,h⟩:=h;cases h
 ·simp only[obi,omi] at h;obtain⟨x,hx0,t,ht,d,hd,e,he',x',hx,h⟩:=h;cases h
 ·simp only[obi,omi] at h;obtain⟨xy,hxy,t,ht,d,hd,e,he',i,hi,x',hx,y',hy,h⟩:=h;cases h
 ·simp only[obi,omi] at h;obtain⟨d,hd,f',hf,xs',hxs,h⟩:=h;cases h
 ·cases h
theorem zhI{P:Program}{n:Nat}{o:Oper}{k:Nat}{zs:List D}{x' v':Opd}(h1:x9 P n o=some (.store k zs x' v')):∃t x v,o.op= .store t x v∧o.dst=none∧szP P t=some k∧zJ x=some x'∧zJ v=some v':=by
 unfold x9 at h1;split at h1
 case h_24 c hop=>have:=zah h1;cases this
 case h_9 t x v hop=>
  split at h1;rotate_left
  ·cases h1
  rename_i hd;simp only[obi,omi] at h1;obtain⟨k',hk,x'',hx,v'',hv,h1⟩:=h1;cases h1;exact⟨t,x,v,hop,hd,hk,hx,hv⟩
 case h_25=>cases h1
 all_goals
  rw[obi] at h1;obtain⟨d,hd,h1⟩:=h1
  repeat' (first|(rw[obi] at h1;obtain⟨_,_,h1⟩:=h1)|(rw[omi] at h1;obtain⟨_,_,h1⟩:=h1;cases h1;done)|(split at h1)|(cases h1;done))
theorem zha{P:Program}{n:Nat}{o:Oper}{d sz bytes:Nat}{zs:List D}{x' y':Opd}(h1:x9 P n o=some (.app d sz bytes zs x' y')):∃x y t e i z,o.op= .call {callee:= .builtin .append,args:=#[x,y],argTypes:=#[t,t]}∧P.underlying t=some (.slice e)∧P.info? e=some i∧i.zero=some z∧i.size=sz∧z.cells.size=sz∧i.bytes=bytes∧o.dst=some d∧d < n∧zJ x=some x'∧zJ y=some y':=by
 unfold x9 at h1;split at h1
 case h_24 c hop=>
  obtain⟨x,y,t,e,i,z,rfl,h⟩:=zhr h1;exact⟨x,y,t,e,i,z,hop,h⟩
 case h_25=>cases h1
 case h_9=>
  split at h1;rotate_left
  ·cases h1
  simp only[obi,omi] at h1;obtain⟨_,_,_,_,_,_,h1⟩:=h1;cases h1
 all_goals
  rw[obi] at h1;obtain⟨d,hd,h1⟩:=h1
  repeat' (first|(rw[obi] at h1;obtain⟨_,_,h1⟩:=h1)|(rw[omi] at h1;obtain⟨_,_,h1⟩:=h1;cases h1;done)|(split at h1)|(cases h1;done))
theorem zgb{P:Program}{nn:Nat}{L:List RO}{s:St}{Q':St→Prop}{n k ei j sz:Nat}{zs:List D}{x' v':Opd}{xs:List (List D)}{cp:Option Nat}{e:List D}{cs:List C}{ds:List D}{ns:List Nat}(hp:s.ev x'= .one (.ptr<|.nm k ei j))(hk:s.hp k=some (.data sz xs true cp))(hxe:xs[ei]? =some e)(hcs:(s.ev v').cells=some cs)(hlen:cs.length=n)(hle:j+n≤e.length)
  (hO:cOs s cs ds ns) (hnd:ns.Nodup) (hkn:k∉ns) (hlt:∀k∈ns,k < 1000000)
  (h:RM0 P nn L ((s.er ns).blk k<|.data sz (xs.set ei<|splice e j ds) true cp) Q'):RM0 P nn (⟨⟨none,.store n zs x' v'⟩,0,[]⟩::L) s Q':=
 RM0.step (fun cx m o a w K Q ho R hK=>by
  obtain⟨t,x,v,hop,hd,hsz,hx,hv⟩:=zhI ho;exact zf7 R hop hd hx hv hsz hp hk hxe hcs hlen hle hO hnd hkn hlt hK) h
theorem zd7(R:zt cx m s a w){d:Nat}{t e:TypeId}{i:TypeInfo}{z:Value}{x y:Operand}{x' y':Opd}(ho:o.op= .call {callee:= .builtin .append,args:=#[x,y],argTypes:=#[t,t]})(ht:cx.P.underlying t=some (.slice e))
  (hi:cx.P.info? e=some i) (hz:i.zero=some z) (hzs:z.cells.size=i.size) (hd:o.dst=some d) (hn:d < cx.n) (hx:zJ x=some x') (hy:zJ y=some y')
  {n len yn:Nat} {xs:List (List D)} {cp:Option Nat} {cs:List C} {ds:List D} {ns:List Nat} (hxv:s.ev x'= .one (.sl n 0 len)) (hk:s.hp n=some (.data i.size xs true cp)) (hlen:len=xs.length) (hyv:s.ev y'= .one (.sl yn 0 1)) (hyk:s.hp yn=some (.vars i.size cs)) (hcl:cs.length=i.size)
  (hO:cOs s cs ds ns) (hnd:ns.Nodup) (hnn:n∉ns) (hlt:∀k∈ns,k < 1000000) (hn1:n < 1000000) (hb1:xs.length+1≤big) (hb2:i.bytes≤65536)
  (hK:∀m' a' w',zt cx m' ((((s.er ns).er [n]).blk n<|.data i.size (xs++[ds]) true none).set d<|.one<|.sl n 0 (xs.length+1)) a' w'→K a' w'):o.wp cx.P a w K Q:=by
 subst hlen;have h1:=R.opd hx;have h2:=R.opd hy;have runs:∀u u' v' w',a.eval x=u→a.eval y=u'→(Builtin.append_ #[t,t] o.type #[u,u']).run cx.P w= .ok v' w'→(execOp a.eval o).run cx.P w= .ok (.value v') w':=by
  intro u u' v' w' hu hu' hr;simp only[execOp,ho,resolve,Sem.run_bind,Sem.run_pure,Result.andThen_ok,invoke,builtin];simp[hu,hu',hr]
 have bnd:∀len k cap,cap < len+k→len+k≤big→i.bytes≤65536→((len+k:Nat):Int)≤9223372036854775807∧Builtin.nextslicecap (len+k) cap * i.bytes≤281474976710656:=by
  intro len k cap h1 h2 h3;refine⟨by unfold big at h2;omega,growslice_fits h1 ?_⟩;have:(len+k) * i.bytes≤2147483648 * 65536:=Nat.mul_le_mul h2 h3;omega
 have zc:∀n,(Builtin.zeroCells z.cells n).size=n * i.size:=fun n=>by rw[size_zeroCells,hzs]
 rw[hxv] at h1;rw[hyv] at h2;obtain⟨f,hf,hcap,xa,hu,had⟩:=ye h1;obtain⟨fy,hfy,hycap,ya,hv,hady⟩:=ye h2;have hNy:=R.hp yn;rw[hfy,hyk] at hNy;obtain⟨by0,hby,rfl⟩:=hady (by omega);unfold zT at hNy;simp only[hby] at hNy;obtain⟨_,_,cellsy,Ty,hhy,_,_,hcy⟩:=hNy;have hnl:cellsy.toList.length=1 * i.size:=by rw[hcy.length,hcl,Nat.one_mul]
 obtain⟨BX,hr0,hnx,hBX⟩:=XQ R hnd hcy hO;generalize hnews:cellsy.toList=news at *;have hcell:∀(j:Nat) (v:Value),news[j]? =some v→w.cell? ((⟨by0,0 * fy.sz,none⟩:Addr).add j)=some v:=fun j v hj=>by
  rw[Qp,cell_of_row w by0 _ cellsy Ty _ hhy];rw[←hnews] at hj;simpa using hj
 have hdl:ds.length=i.size:=by rw[←hr0.length,hnl,Nat.one_mul]
 have hr:RdLL true w.heap i.size [ds] news BX:=by
  simp only[RdLL];refine⟨BX,[],by simp,hdl,?_,rfl⟩
  rwa [List.take_of_length_le (by omega)]
 have hN:=R.hp n;rw[hf] at hN;rw[hk] at hN;obtain⟨R1,E1⟩:=R.give (n:=n) hlt hBX;have hnc:ns.contains n=false:=by
  rw[Bool.eq_false_iff];intro h;rw[List.contains_iff_mem] at h;exact hnn h
 have hf1:(m.give ns BX n).inf n=some f:=by
  show(if ns.contains n then none else m.inf n)=some f;rw[hnc];simpa using hf
 have hnX:∀c,m.own c=some n→c∉BX:=fun c hc hx=>by
  obtain⟨_,j',hj',_,_,_,e'⟩:=hBX c hx;rw[hc] at e';cases e';exact hnn hj'
 have own1:∀c,m.own c=some n→(m.give ns BX n).own c=some n:=fun c hc=>by
  show(if c∈BX then some n else m.own c)=some n;rw[if_neg (hnX c hc)];exact hc
 have Yl:∀c∈BX,(m.give ns BX n).own c=some n:=fun c hc=>by
  show(if c∈BX then some n else m.own c)=some n;rw[if_pos hc]
 simp only[Nat.zero_add] at hcap;simp only[Nat.sub_zero] at hu hv;by_cases hroom:xs.length+1≤f.cap
 ·
  obtain⟨b,hfb,rfl⟩:=had (by omega);unfold zT at hN;simp only[hfb] at hN;obtain⟨q1,q2,cells,T,q4,q5,q6,q7,bs0,q8,q9,q10⟩:=hN;obtain⟨q9a,q9b⟩:=q9 rfl;have hfit:xs.length * i.size+news.length≤cells.size:=by
   rw[hnl,←Nat.add_mul,←q6];exact Nat.le_trans (Nat.mul_le_mul_right _ hroom) q5
  rw[Nat.zero_mul] at hu;have hrun:=xH (P:=cx.P) (w:=w) t o.type e i ht hi b xs.length f.cap cells T q4 ⟨by0,0 * fy.sz,none⟩ 1 fy.cap news hnl hcell (RdLL.cells hr (by simpa using hnl)) hroom hfit;have hsp:(cells.toList.take (xs.length * i.size)++news++cells.toList.drop (xs.length * i.size+news.length)).toArray.size=cells.size:=by
   simp only[List.size_toArray,List.length_append,List.length_take,List.length_drop,Array.length_toList];omega
  have hother:∀c,c≠b→(w.setRow b (cells.toList.take (xs.length * i.size)++news++cells.toList.drop (xs.length * i.size+news.length)).toArray).heap[c]? =w.heap[c]?:=fun c hc=>by
   simp only[World.setRow,Array.getElem?_modify];rw[if_neg (Ne.symm hc)]
  have hne0:∀c∈bs0,c≠b:=fun c hc e=>by
   subst e;exact(q9b c hc).2 hfb
  have hne1:∀c∈BX,c≠b:=fun c hc e=>by
   subst e;exact hnX c q2 hc
  obtain⟨R2,E2⟩:=R1.upd (n:=n) (k:= .data i.size (xs++[ds]) true none) hf1 hfb q4 hsp (by
   refine⟨q6,by simp,bs0++BX,?_,fun _=>⟨?_,fun c hc=> ?_⟩,by simp⟩
   ·refine RdLL.append (qu (fun j hj=> ?_)<|RdLL.congr _ _ _ _ (fun c hc=>hother c (hne0 c hc)) q8) ?_
    ·rw[List.append_assoc,List.getElem?_append_left (by simp only[List.length_take,Array.length_toList];omega),List.getElem?_take,if_pos hj]
    ·have e0:(cells.toList.take (xs.length * i.size)++news++cells.toList.drop (xs.length * i.size+news.length)).drop (xs.length * i.size)=news++cells.toList.drop (xs.length * i.size+news.length):=by
      rw[List.append_assoc,List.drop_left' (by simp only[List.length_take,Array.length_toList];omega)]
     show RdLL true _ i.size [ds] ((cells.toList.take (xs.length * i.size)++news++cells.toList.drop (xs.length * i.size+news.length)).drop (xs.length * i.size)) BX;rw[e0];refine qu (us:=news) (fun j hj=> ?_) (RdLL.congr _ _ _ _ (fun c hc=>hother c (hne1 c hc)) hr);rw[List.getElem?_append_left (by simp only[List.length_cons,List.length_nil] at hj;omega)]
   ·rw[List.nodup_append];exact⟨q9a,hnx,fun c hc c' hc' e'=>hnX c (q9b c hc).1 (e'▸hc')⟩
   ·rcases List.mem_append.1 hc with hc|hc
    ·exact⟨own1 c (q9b c hc).1,(q9b c hc).2⟩
    ·exact⟨Yl c hc,fun e'=>by rw[hfb] at e';cases e';exact hne1 _ hc rfl⟩)
  have E0:Ext [n] (m.give ns BX n) (w.setRow b (cells.toList.take (xs.length * i.size)++news++cells.toList.drop (xs.length * i.size+news.length)).toArray).heap (m.give ns BX n) (w.setRow b (cells.toList.take (xs.length * i.size)++news++cells.toList.drop (xs.length * i.size+news.length)).toArray).heap:=⟨fun _ _ _ h=>h,fun _ _ _ _ _ h=>⟨h,rfl⟩,fun _ _ _ _ _ _ _ _ _ h _=>⟨h,rfl⟩⟩;have R3:zt cx (m.give ns BX n) (((s.er ns).er [n]).blk n<|.data i.size (xs++[ds]) true none) a (w.setRow b (cells.toList.take (xs.length * i.size)++news++cells.toList.drop (xs.length * i.size+news.length)).toArray):=by
   have HN:=R2.hp n;simp only[St.blk,if_true] at HN;have:=R2.renew (k:= .data i.size (xs++[ds]) true none) E0 hn1 (fun j b g hj hg hgb=> ?_) (fun _ _=>rfl) HN R2.own R2.fr
   ·have e:(((s.er ns).blk n<|.data i.size (xs++[ds]) true none).er [n]).blk n (.data i.size (xs++[ds]) true none)=((s.er ns).er [n]).blk n (.data i.size (xs++[ds]) true none):=by
     simp only[St.er,St.blk];congr 1;funext j;by_cases hj:j=n<;>simp[hj]
    rwa [e] at this
   ·have HJ:=R2.hp j;rw[hg] at HJ;obtain⟨k0,hk0⟩:=zT.some_blk HJ;rw[hk0] at HJ;unfold zT at HJ;simp only[hgb] at HJ;exact⟨HJ.2.1,rfl⟩
  refine js (runs _ _ _ _ hu hv hrun) (hK (m.give ns BX n) _ _ ?_);rw[hd];exact R3.set hn (v:= .one (.sl n 0 (xs.length+1))) ⟨rfl,f,hf1,by simpa using hroom,some ⟨b,0,none⟩,by simp,fun _=>⟨b,hfb,by simp⟩⟩
 ·
  obtain⟨b1,b2⟩:=bnd xs.length 1 f.cap (by omega) hb1 hb2;have hge:=grownCap_ge w (xs.length+1) f.cap e;have hold:∃olds bs0,olds.length=xs.length * i.size∧(xs.length=0∨∃ad,xa=some ad∧∀(j:Nat) v,olds[j]? =some v→w.cell? (ad.add j)=some v)∧RdLL true w.heap i.size xs olds bs0∧
    bs0.Nodup∧(∀b∈bs0,m.own b=some n∧f.blk≠some b)∧f.sz=i.size:=by
   unfold zT at hN;cases hfb:f.blk with
   |none=>
    simp only[hfb] at hN;obtain⟨q1,z0,o0,c0,q2,q3,_⟩:=hN;simp only[Blk.data.injEq] at q2;obtain⟨rfl,rfl,rfl,rfl⟩:=q2;exact⟨[],[],by simp,.inl rfl,by simp[RdLL],by simp,by simp,q3⟩
   |some b=>
    simp only[hfb] at hN;obtain⟨q1,q2,cells,T,q4,q5,q6,q7,bs0,q8,q9,q10⟩:=hN;have hfits:=q8.fits;simp only[Array.length_toList] at hfits;refine⟨cells.toList.take (xs.length * i.size),bs0,by simp only[List.length_take,Array.length_toList];omega,?_,qu (fun j hj=>by rw[List.getElem?_take,if_pos hj]) q8,(q9 O).1,fun c hc=>⟨((q9 O).2 c hc).1,by rw[←hfb];exact((q9 O).2 c hc).2⟩,q6⟩;by_cases h0:xs.length=0
    ·exact .inl h0
    ·obtain⟨b',hb',rfl⟩:=had (by omega);rw[hfb] at hb';cases hb';refine .inr ⟨_,rfl,fun j v hj=> ?_⟩;rw[Qp,cell_of_row w b _ cells T _ q4];rw[List.getElem?_take] at hj;split at hj
     ·simpa using hj
     ·cases hj
  obtain⟨olds,bs0,hol,hocell,hor,q9a,q9b,q6⟩:=hold;have hrun:=xJ (P:=cx.P) (w:=w) t o.type e i z ht hi hz xa xs.length f.cap olds hol hocell ⟨by0,0 * fy.sz,none⟩ 1 fy.cap news hnl hcell (by omega) b1 b2;have hsize:(olds.toArray++news.toArray++Builtin.zeroCells z.cells (grownCap w (xs.length+1) f.cap e - (xs.length+1))).size=grownCap w (xs.length+1) f.cap e * i.size:=by
   simp only[Array.size_append,List.size_toArray,zc,hnl,hol];rw[←Nat.add_mul,←Nat.add_mul];congr 1;omega
  have hheap:∀(c:Nat) (x:Obj),w.heap[c]? =some x→(w.drew.alloc<|.cells (olds.toArray++news.toArray++Builtin.zeroCells z.cells (grownCap w (xs.length+1) f.cap e - (xs.length+1))) e).heap[c]? =w.heap[c]?:=fun c x hx=>by
   have:=Z8 (w:=w.drew) (o:= .cells (olds.toArray++news.toArray++Builtin.zeroCells z.cells (grownCap w (xs.length+1) f.cap e - (xs.length+1))) e) (b:=c) (x:=x) hx;exact this
  have hroot1:∀c,f.blk=some c→(m.give ns BX n).own c=some n:=fun c hc=>by
   have HN:=R.hp n;rw[hf] at HN;obtain⟨k0,hk0⟩:=zT.some_blk HN;rw[hk0] at HN;unfold zT at HN;simp only[hc] at HN;exact own1 c HN.2.1
  have E2:Ext [n] (m.give ns BX n) w.heap {inf:=fun k=>if k=n then some ⟨some w.heap.size,i.size,grownCap w (xs.length+1) f.cap e⟩ else(m.give ns BX n).inf k,own:=fun c=>if c=w.heap.size then some n else if f.blk=some c then none else(m.give ns BX n).own c}
    (w.drew.alloc<|.cells (olds.toArray++news.toArray++Builtin.zeroCells z.cells (grownCap w (xs.length+1) f.cap e - (xs.length+1))) e).heap:=by
   refine⟨fun j hj g hg=> ?_,fun c x y zz hc hoc=>⟨?_,hheap c _ hc⟩,fun c x y zz j gj hc hj hgj hoc hroot=>⟨?_,hheap c _ hc⟩⟩
   ·have:j≠n:=by simpa using hj
    simp[this,hg]
   ·have:=zH hc;simp only;rw[if_neg (by omega)];split
    ·rfl
    ·exact hoc
   ·have:=zH hc;have hjn:j≠n:=by intro e;subst e;simp at hj
    simp only;rw[if_neg (by omega),if_neg ?_]
    ·exact hoc
    ·intro e';rw[hroot1 c e'] at hoc;cases hoc;exact hjn rfl
  have R2:zt cx {inf:=fun k=>if k=n then some ⟨some w.heap.size,i.size,grownCap w (xs.length+1) f.cap e⟩ else(m.give ns BX n).inf k,own:=fun c=>if c=w.heap.size then some n else if f.blk=some c then none else(m.give ns BX n).own c}
    (((s.er ns).er [n]).blk n<|.data i.size (xs++[ds]) true none) a (w.drew.alloc<|.cells (olds.toArray++news.toArray++Builtin.zeroCells z.cells (grownCap w (xs.length+1) f.cap e - (xs.length+1))) e):=by
   refine R1.renew E2 hn1 (fun j b g hj hg hgb=> ?_) (fun j hj=>by simp[hj]) ?_ ⟨fun b j hb=> ?_,fun b hb hW=> ?_⟩ (R.fr.drew.alloc _)
   ·have HJ:=R1.hp j;rw[hg] at HJ;obtain⟨k0,hk0⟩:=zT.some_blk HJ;rw[hk0] at HJ;unfold zT at HJ;simp only[hgb] at HJ;obtain⟨_,g2,cells,T,g4,_⟩:=HJ;have:=zH g4;refine⟨?_,hheap b _ g4⟩;simp only;rw[if_neg (by omega),if_neg ?_]
    ·exact g2
    ·intro e';rw[hroot1 b e'] at g2;cases g2;exact hj rfl
   ·simp only[if_true];unfold zT;have hth:∀c∈bs0++BX,(w.drew.alloc<|.cells (olds.toArray++news.toArray++Builtin.zeroCells z.cells (grownCap w (xs.length+1) f.cap e - (xs.length+1))) e).heap[c]? =w.heap[c]?∧c < w.heap.size:=fun c hc=>by
     rcases List.mem_append.1 hc with hc|hc
     ·obtain⟨x,y,zz,hx⟩:=RdLL.there _ _ _ _ hor c hc;exact⟨hheap c _ hx,zH hx⟩
     ·obtain⟨x,y,zz,hx⟩:=RdLL.there _ _ _ _ hr c hc;exact⟨hheap c _ hx,zH hx⟩
    refine⟨.inl R.fr.size,by simp,_,e,zb9 (w:=w.drew),Nat.le_of_eq hsize.symm,rfl,by simp,bs0++BX,?_,fun _=>⟨?_,fun c hc=> ?_⟩,by simp⟩
    ·simp only[Array.toList_append,List.append_assoc];refine RdLL.append (qu (us:=olds) (fun j hj=> ?_)<|RdLL.congr _ _ _ _ (fun c hc=>(hth c (by simp[hc])).1) hor) ?_
     ·rw[List.getElem?_append_left (by omega)]
     ·rw[List.drop_left' (by omega)];refine qu (us:=news) (fun j hj=> ?_) (RdLL.congr _ _ _ _ (fun c hc=>(hth c (by simp[hc])).1) hr);rw[List.getElem?_append_left (by simp only[List.length_cons,List.length_nil] at hj;omega)]
    ·rw[List.nodup_append];exact⟨q9a,hnx,fun c hc c' hc' e'=>hnX c (q9b c hc).1 (e'▸hc')⟩
    ·have hlt':=(hth c hc).2;refine⟨?_,by simp only[ne_eq,Option.some.injEq];omega⟩;simp only;rw[if_neg (by omega)];rcases List.mem_append.1 hc with hc|hc
     ·rw[if_neg (q9b c hc).2];exact own1 c (q9b c hc).1
     ·rw[if_neg (fun e'=> ?_)]
      ·exact Yl c hc
      ·have HN:=R.hp n;rw[hf] at HN;obtain⟨k0,hk0⟩:=zT.some_blk HN;rw[hk0] at HN;unfold zT at HN;simp only[e'] at HN;exact hnX c HN.2.1 hc
   ·simp only at hb ⊢;have hs2:(w.drew.alloc<|.cells (olds.toArray++news.toArray++Builtin.zeroCells z.cells (grownCap w (xs.length+1) f.cap e - (xs.length+1))) e).heap.size=w.heap.size+1:=kY (w:=w.drew);split at hb
    ·rename_i e5;subst e5;rw[hs2];omega
    ·split at hb
     ·cases hb
     ·have:=R1.own.1 b j hb;rw[hs2];omega
   ·have hsz0:=R.fr.size;simp only;rw[if_neg (by omega)];by_cases e7:f.blk=some b
    ·exfalso;have HN:=R.hp n;rw[hf] at HN;obtain⟨k0,hk0⟩:=zT.some_blk HN;rw[hk0] at HN;unfold zT at HN;simp only[e7] at HN;rcases HN.1 with h|h
     ·omega
     ·exact hW h
    ·rw[if_neg e7];exact R1.own.2 b hb hW
  have R3:=R2.set hn (v:= .one (.sl n 0 (xs.length+1))) (u:= .slice (some ⟨w.heap.size,0,none⟩) (xs.length+1) (grownCap w (xs.length+1) f.cap e)) ⟨rfl,⟨some w.heap.size,i.size,grownCap w (xs.length+1) f.cap e⟩,by simp,by simpa using hge,some ⟨w.heap.size,0,none⟩,by simp,fun _=>⟨w.heap.size,rfl,by simp⟩⟩;exact js (runs _ _ _ _ hu hv hrun) (by rw[hd];exact hK _ _ _ R3)
theorem RM0.appAbs{P:Program}{nn:Nat}{L:List RO}{s:St}{Q':St→Prop}{d sz bytes:Nat}{zs:List D}{x' y':Opd}{n len yn:Nat}{xs:List (List D)}{cp:Option Nat}{cs:List C}{ds:List D}{ns:List Nat}(hxv:s.ev x'= .one (.sl n 0 len))(hk:s.hp n=some (.data sz xs true cp))(hlen:len=xs.length)(hyv:s.ev y'= .one (.sl yn 0 1))(hyk:s.hp yn=some (.vars sz cs))(hcl:cs.length=sz)
  (hO:cOs s cs ds ns) (hnd:ns.Nodup) (hnn:n∉ns) (hlt:∀k∈ns,k < 1000000) (hn1:n < 1000000) (hb1:xs.length+1≤big) (hb2:bytes≤65536)
  (h:RM0 P nn L ((((s.er ns).er [n]).blk n<|.data sz (xs++[ds]) true none).set d<|.one<|.sl n 0 (xs.length+1)) Q'):RM0 P nn (⟨⟨none,.app d sz bytes zs x' y'⟩,0,[]⟩::L) s Q':=
 RM0.step (fun cx m o a w K Q ho R hK=>by
  obtain⟨x,y,t,e,i,z,hop,ht,hi,hz,rfl,hzs,rfl,hd,hdn,hx,hy⟩:=zha ho;exact zd7 R hop ht hi hz hzs hd hdn hx hy hxv hk hlen hyv hyk hcl hO hnd hnn hlt hn1 hb1 hb2 hK) h
end Go.AW
