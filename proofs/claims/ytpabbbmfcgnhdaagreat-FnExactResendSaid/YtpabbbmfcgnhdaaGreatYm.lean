/- To append rows of one's own, with all that they own, to rows of one's own. Lemmas. Conditions: none. -/
import Derived.Test.YtpabbbmfcgnhdaaGreatYo
set_option linter.unusedVariables false
set_option linter.unusedSimpArgs false
namespace Go.AW
section
variable {cx:Cx} {m:M} {s:St} {a:Act} {w:World} {o:Oper} {K:Act→World→Prop} {Q:Exit→Act→World→Prop}
theorem zeW(R:zH cx m s a w){d:Nat}{t e:TypeId}{i:TypeInfo}{z:Value}{x y:Operand}{x' y':Opd}(ho:o.op= .call {callee:= .builtin .append,args:=#[x,y],argTypes:=#[t,t]})(ht:cx.P.underlying t=some (.slice e))
  (hi:cx.P.info? e=some i) (hz:i.zero=some z) (hzs:z.cells.size=i.size) (hd:o.dst=some d) (hn:d < cx.n) (hx:zR x=some x') (hy:zR y=some y')
  {n len yn ylen:Nat} {xs ys:List (List D)} {cp cpy:Option Nat} (hxv:s.ev x'= .one (.sl n 0 len)) (hk:s.hp n=some (.data i.size xs true cp)) (hlen:len=xs.length) (hyv:s.ev y'= .one (.sl yn 0 ylen)) (hyk:s.hp yn=some (.data i.size ys true cpy)) (hyl:ylen=ys.length)
  (hnn:n≠yn) (hlt:yn < 1000000) (hn1:n < 1000000) (hb1:xs.length+ys.length≤big) (hb2:i.bytes≤65536)
  (hK:∀m' a' w',zH cx m' ((((s.er [yn]).er [n]).blk n<|.data i.size (xs++ys) true none).set d<|.one<|.sl n 0 (xs.length+ys.length)) a' w'→K a' w'):o.wp cx.P a w K Q:=by
 subst hlen;subst hyl;have h1:=R.opd hx;have h2:=R.opd hy;have runs:∀u u' v' w',a.eval x=u→a.eval y=u'→(Builtin.append_ #[t,t] o.type #[u,u']).run cx.P w= .ok v' w'→(execOp a.eval o).run cx.P w= .ok (.value v') w':=by
  intro u u' v' w' hu hu' hr;simp only[execOp,ho,resolve,Sem.run_bind,Sem.run_pure,Result.andThen_ok,invoke,builtin];simp[hu,hu',hr]
 have bnd:∀len k cap,cap < len+k→len+k≤big→i.bytes≤65536→((len+k:Nat):Int)≤9223372036854775807∧Builtin.nextslicecap (len+k) cap * i.bytes≤281474976710656:=by
  intro len k cap h1 h2 h3;refine⟨by unfold big at h2;omega,growslice_fits h1 ?_⟩;have:(len+k) * i.bytes≤2147483648 * 65536:=Nat.mul_le_mul h2 h3;omega
 have zc:∀n,(Builtin.zeroCells z.cells n).size=n * i.size:=fun n=>by rw[size_zeroCells,hzs]
 rw[hxv] at h1;rw[hyv] at h2;obtain⟨f,hf,hcap,xa,hu,had⟩:=j3 h1;obtain⟨fy,hfy,hycap,ya,hv,hady⟩:=j3 h2;have hN:=R.hp n;rw[hf] at hN;rw[hk] at hN;have hNy:=R.hp yn;rw[hfy,hyk] at hNy;simp only[Nat.zero_add] at hcap hycap;simp only[Nat.sub_zero] at hu hv;by_cases hy0:ys=[]
 ·subst hy0;have hrun:=J0 (P:=cx.P) (w:=w) t o.type e i ht hi xa ya xs.length f.cap fy.cap hcap;obtain⟨R1,E1⟩:=R.give (ns:=[yn]) (BX:=[]) (n:=n) (fun k hk=>by simp at hk;omega) (by simp);have hnc:[yn].contains n=false:=by simp[hnn]
  have hf1:(m.give [yn] [] n).inf n=some f:=by
   show(if [yn].contains n then none else m.inf n)=some f;rw[hnc];simpa using hf
  have E0:Ext [n] (m.give [yn] [] n) w.heap (m.give [yn] [] n) w.heap:=⟨fun _ _ _ h=>h,fun _ _ _ _ _ h=>⟨h,rfl⟩,fun _ _ _ _ _ _ _ _ _ h _=>⟨h,rfl⟩⟩;have R3:zH cx (m.give [yn] [] n) (((s.er [yn]).er [n]).blk n<|.data i.size (xs++[]) true none) a w:=by
   refine R1.renew (k:= .data i.size (xs++[]) true none) E0 hn1 (fun j b g hj hg hgb=> ?_) (fun _ _=>rfl) ?_ R1.own R1.fr
   ·have HJ:=R1.hp j;rw[hg] at HJ;obtain⟨k0,hk0⟩:=zY.some_blk HJ;rw[hk0] at HJ;unfold zY at HJ;simp only[hgb] at HJ;exact⟨HJ.2.1,rfl⟩
   ·rw[hf1,List.append_nil];unfold zY at hN ⊢;cases hfb:f.blk with
    |none=>
     simp only[hfb] at hN ⊢;obtain⟨q1,z0,o0,c0,q2,q3,_⟩:=hN;simp only[Blk.data.injEq] at q2;obtain⟨rfl,rfl,rfl,rfl⟩:=q2;exact⟨q1,_,_,_,rfl,q3,by simp⟩
    |some b=>
     simp only[hfb] at hN ⊢;obtain⟨q1,q2,cells,T,q4,q5,q6,q7,bs0,q8,q9,q10⟩:=hN;refine⟨q1,?_,cells,T,q4,q5,q6,by simp,bs0,q8,fun _=>⟨(q9 O).1,fun c hc=>⟨?_,((q9 O).2 c hc).2⟩⟩,by simp⟩
     ·show(if b∈[] then some n else m.own b)=some n;rw[if_neg (by simp)];exact q2
     ·show(if c∈[] then some n else m.own c)=some n;rw[if_neg (by simp)];exact((q9 O).2 c hc).1
  refine qY (runs _ _ _ _ hu hv hrun) (hK (m.give [yn] [] n) _ _ ?_);rw[hd];exact R3.set hn (v:= .one (.sl n 0 (xs.length+0))) ⟨rfl,f,hf1,by simpa using hcap,xa,by simp,fun h0=>had h0⟩
 have hpos:0 < ys.length:=List.length_pos_iff.2 hy0;obtain⟨by0,hby,rfl⟩:=hady (by omega);unfold zY at hNy;simp only[hby] at hNy;obtain⟨_,_,cellsy,Ty,hhy,p5,p6,p7,BX,p8,p9,_⟩:=hNy;obtain⟨hnx,p9b⟩:=p9 rfl;have hfits:=p8.fits;simp only[Array.length_toList] at hfits;have hnl:(cellsy.toList.take (ys.length * i.size)).length=ys.length * i.size:=by simp only[List.length_take,Array.length_toList];omega
 have hr:RdLL true w.heap i.size ys (cellsy.toList.take (ys.length * i.size)) BX:=qa (fun j hj=>by rw[List.getElem?_take,if_pos hj]) p8;have hcell:∀(j:Nat) (v:Value),(cellsy.toList.take (ys.length * i.size))[j]? =some v→w.cell? ((⟨by0,0 * fy.sz,none⟩:Addr).add j)=some v:=fun j v hj=>by
  rw[yW,cell_of_row w by0 _ cellsy Ty _ hhy];rw[List.getElem?_take] at hj;split at hj
  ·simpa using hj
  ·cases hj
 generalize hnews:cellsy.toList.take (ys.length * i.size)=news at *;have hBX:∀c∈BX,Whole cx m s [yn] c:=fun c hc=>by
  obtain⟨o1,o2⟩:=p9b c hc;refine⟨?_,yn,by simp,fy,hfy,fun e=>absurd e o2,o1⟩;by_cases h1:cx.w0.heap.size≤c
  ·exact .inl h1
  ·by_cases h2:cx.W c
   ·exact .inr h2
   ·have:=R.own.2 c (by omega) h2;rw[o1] at this;have:=cx.far c yn this.symm;omega
 obtain⟨R1,E1⟩:=R.give (ns:=[yn]) (n:=n) (fun k hk=>by simp at hk;omega) hBX;have hnc:[yn].contains n=false:=by simp[hnn]
 have hf1:(m.give [yn] BX n).inf n=some f:=by
  show(if [yn].contains n then none else m.inf n)=some f;rw[hnc];simpa using hf
 have hnX:∀c,m.own c=some n→c∉BX:=fun c hc hx=>by
  obtain⟨_,j',hj',_,_,_,e'⟩:=hBX c hx;rw[hc] at e';cases e';simp at hj';exact hnn hj'
 have own1:∀c,m.own c=some n→(m.give [yn] BX n).own c=some n:=fun c hc=>by
  show(if c∈BX then some n else m.own c)=some n;rw[if_neg (hnX c hc)];exact hc
 have Jc:∀c∈BX,(m.give [yn] BX n).own c=some n:=fun c hc=>by
  show(if c∈BX then some n else m.own c)=some n;rw[if_pos hc]
 by_cases hroom:xs.length+ys.length≤f.cap
 ·
  obtain⟨b,hfb,rfl⟩:=had (by omega);unfold zY at hN;simp only[hfb] at hN;obtain⟨q1,q2,cells,T,q4,q5,q6,q7,bs0,q8,q9,q10⟩:=hN;obtain⟨q9a,q9b⟩:=q9 rfl;have hfit:xs.length * i.size+news.length≤cells.size:=by
   rw[hnl,←Nat.add_mul,←q6];exact Nat.le_trans (Nat.mul_le_mul_right _ hroom) q5
  rw[Nat.zero_mul] at hu;have hrun:=Jg (P:=cx.P) (w:=w) t o.type e i ht hi b xs.length f.cap cells T q4 ⟨by0,0 * fy.sz,none⟩ ys.length fy.cap news hnl hcell (RdLL.cells hr (by simpa using hnl)) hroom hfit;have hsp:(cells.toList.take (xs.length * i.size)++news++cells.toList.drop (xs.length * i.size+news.length)).toArray.size=cells.size:=by
   simp only[List.size_toArray,List.length_append,List.length_take,List.length_drop,Array.length_toList];omega
  have hother:∀c,c≠b→(w.setRow b (cells.toList.take (xs.length * i.size)++news++cells.toList.drop (xs.length * i.size+news.length)).toArray).heap[c]? =w.heap[c]?:=fun c hc=>by
   simp only[World.setRow,Array.getElem?_modify];rw[if_neg (Ne.symm hc)]
  have hne0:∀c∈bs0,c≠b:=fun c hc e=>by
   subst e;exact(q9b c hc).2 hfb
  have hne1:∀c∈BX,c≠b:=fun c hc e=>by
   subst e;exact hnX c q2 hc
  obtain⟨R2,E2⟩:=R1.upd (n:=n) (k:= .data i.size (xs++ys) true none) hf1 hfb q4 hsp (by
   refine⟨q6,by simp,bs0++BX,?_,fun _=>⟨?_,fun c hc=> ?_⟩,by simp⟩
   ·refine RdLL.append (qa (fun j hj=> ?_)<|RdLL.congr _ _ _ _ (fun c hc=>hother c (hne0 c hc)) q8) ?_
    ·rw[List.append_assoc,List.getElem?_append_left (by simp only[List.length_take,Array.length_toList];omega),List.getElem?_take,if_pos hj]
    ·have e0:(cells.toList.take (xs.length * i.size)++news++cells.toList.drop (xs.length * i.size+news.length)).drop (xs.length * i.size)=news++cells.toList.drop (xs.length * i.size+news.length):=by
      rw[List.append_assoc,List.drop_left' (by simp only[List.length_take,Array.length_toList];omega)]
     show RdLL true _ i.size ys ((cells.toList.take (xs.length * i.size)++news++cells.toList.drop (xs.length * i.size+news.length)).drop (xs.length * i.size)) BX;rw[e0];refine qa (us:=news) (fun j hj=> ?_) (RdLL.congr _ _ _ _ (fun c hc=>hother c (hne1 c hc)) hr);rw[List.getElem?_append_left (by omega)]
   ·rw[List.nodup_append];exact⟨q9a,hnx,fun c hc c' hc' e'=>hnX c (q9b c hc).1 (e'▸hc')⟩
   ·rcases List.mem_append.1 hc with hc|hc
    ·exact⟨own1 c (q9b c hc).1,(q9b c hc).2⟩
    ·exact⟨Jc c hc,fun e'=>by rw[hfb] at e';cases e';exact hne1 _ hc rfl⟩)
  have E0:Ext [n] (m.give [yn] BX n) (w.setRow b (cells.toList.take (xs.length * i.size)++news++cells.toList.drop (xs.length * i.size+news.length)).toArray).heap (m.give [yn] BX n) (w.setRow b (cells.toList.take (xs.length * i.size)++news++cells.toList.drop (xs.length * i.size+news.length)).toArray).heap:=⟨fun _ _ _ h=>h,fun _ _ _ _ _ h=>⟨h,rfl⟩,fun _ _ _ _ _ _ _ _ _ h _=>⟨h,rfl⟩⟩;have R3:zH cx (m.give [yn] BX n) (((s.er [yn]).er [n]).blk n<|.data i.size (xs++ys) true none) a (w.setRow b (cells.toList.take (xs.length * i.size)++news++cells.toList.drop (xs.length * i.size+news.length)).toArray):=by
   have HN:=R2.hp n;simp only[St.blk,if_true] at HN;have:=R2.renew (k:= .data i.size (xs++ys) true none) E0 hn1 (fun j b g hj hg hgb=> ?_) (fun _ _=>rfl) HN R2.own R2.fr
   ·have e:(((s.er [yn]).blk n<|.data i.size (xs++ys) true none).er [n]).blk n (.data i.size (xs++ys) true none)=((s.er [yn]).er [n]).blk n (.data i.size (xs++ys) true none):=by
     simp only[St.er,St.blk];congr 1;funext j;by_cases hj:j=n<;>simp[hj]
    rwa [e] at this
   ·have HJ:=R2.hp j;rw[hg] at HJ;obtain⟨k0,hk0⟩:=zY.some_blk HJ;rw[hk0] at HJ;unfold zY at HJ;simp only[hgb] at HJ;exact⟨HJ.2.1,rfl⟩
  refine qY (runs _ _ _ _ hu hv hrun) (hK (m.give [yn] BX n) _ _ ?_);rw[hd];exact R3.set hn (v:= .one (.sl n 0 (xs.length+ys.length))) ⟨rfl,f,hf1,by simpa using hroom,some ⟨b,0,none⟩,by simp,fun _=>⟨b,hfb,by simp⟩⟩
 ·
  obtain⟨b1,b2⟩:=bnd xs.length ys.length f.cap (by omega) hb1 hb2;have hge:=grownCap_ge w (xs.length+ys.length) f.cap e;have hold:∃olds bs0,olds.length=xs.length * i.size∧(xs.length=0∨∃ad,xa=some ad∧∀(j:Nat) v,olds[j]? =some v→w.cell? (ad.add j)=some v)∧RdLL true w.heap i.size xs olds bs0∧
    bs0.Nodup∧(∀b∈bs0,m.own b=some n∧f.blk≠some b)∧f.sz=i.size:=by
   unfold zY at hN;cases hfb:f.blk with
   |none=>
    simp only[hfb] at hN;obtain⟨q1,z0,o0,c0,q2,q3,_⟩:=hN;simp only[Blk.data.injEq] at q2;obtain⟨rfl,rfl,rfl,rfl⟩:=q2;exact⟨[],[],by simp,.inl rfl,by simp[RdLL],by simp,by simp,q3⟩
   |some b=>
    simp only[hfb] at hN;obtain⟨q1,q2,cells,T,q4,q5,q6,q7,bs0,q8,q9,q10⟩:=hN;have hfits:=q8.fits;simp only[Array.length_toList] at hfits;refine⟨cells.toList.take (xs.length * i.size),bs0,by simp only[List.length_take,Array.length_toList];omega,?_,qa (fun j hj=>by rw[List.getElem?_take,if_pos hj]) q8,(q9 O).1,fun c hc=>⟨((q9 O).2 c hc).1,by rw[←hfb];exact((q9 O).2 c hc).2⟩,q6⟩;by_cases h0:xs.length=0
    ·exact .inl h0
    ·obtain⟨b',hb',rfl⟩:=had (by omega);rw[hfb] at hb';cases hb';refine .inr ⟨_,rfl,fun j v hj=> ?_⟩;rw[yW,cell_of_row w b _ cells T _ q4];rw[List.getElem?_take] at hj;split at hj
     ·simpa using hj
     ·cases hj
  obtain⟨olds,bs0,hol,hocell,hor,q9a,q9b,q6⟩:=hold;have hrun:=Q2 (P:=cx.P) (w:=w) t o.type e i z ht hi hz xa xs.length f.cap olds hol hocell ⟨by0,0 * fy.sz,none⟩ ys.length fy.cap news hnl hcell (by omega) b1 b2;have hsize:(olds.toArray++news.toArray++Builtin.zeroCells z.cells (grownCap w (xs.length+ys.length) f.cap e - (xs.length+ys.length))).size=grownCap w (xs.length+ys.length) f.cap e * i.size:=by
   simp only[Array.size_append,List.size_toArray,zc,hnl,hol];rw[←Nat.add_mul,←Nat.add_mul];congr 1;omega
  have hheap:∀(c:Nat) (x:Obj),w.heap[c]? =some x→(w.drew.alloc<|.cells (olds.toArray++news.toArray++Builtin.zeroCells z.cells (grownCap w (xs.length+ys.length) f.cap e - (xs.length+ys.length))) e).heap[c]? =w.heap[c]?:=fun c x hx=>by
   have:=yN (w:=w.drew) (o:= .cells (olds.toArray++news.toArray++Builtin.zeroCells z.cells (grownCap w (xs.length+ys.length) f.cap e - (xs.length+ys.length))) e) (b:=c) (x:=x) hx;exact this
  have hroot1:∀c,f.blk=some c→(m.give [yn] BX n).own c=some n:=fun c hc=>by
   have HN:=R.hp n;rw[hf] at HN;obtain⟨k0,hk0⟩:=zY.some_blk HN;rw[hk0] at HN;unfold zY at HN;simp only[hc] at HN;exact own1 c HN.2.1
  have E2:Ext [n] (m.give [yn] BX n) w.heap {inf:=fun k=>if k=n then some ⟨some w.heap.size,i.size,grownCap w (xs.length+ys.length) f.cap e⟩ else(m.give [yn] BX n).inf k,own:=fun c=>if c=w.heap.size then some n else if f.blk=some c then none else(m.give [yn] BX n).own c}
    (w.drew.alloc<|.cells (olds.toArray++news.toArray++Builtin.zeroCells z.cells (grownCap w (xs.length+ys.length) f.cap e - (xs.length+ys.length))) e).heap:=by
   refine⟨fun j hj g hg=> ?_,fun c x y zz hc hoc=>⟨?_,hheap c _ hc⟩,fun c x y zz j gj hc hj hgj hoc hroot=>⟨?_,hheap c _ hc⟩⟩
   ·have:j≠n:=by simpa using hj
    simp[this,hg]
   ·have:=zL hc;simp only;rw[if_neg (by omega)];split
    ·rfl
    ·exact hoc
   ·have:=zL hc;have hjn:j≠n:=by intro e;subst e;simp at hj
    simp only;rw[if_neg (by omega),if_neg ?_]
    ·exact hoc
    ·intro e';rw[hroot1 c e'] at hoc;cases hoc;exact hjn rfl
  have R2:zH cx {inf:=fun k=>if k=n then some ⟨some w.heap.size,i.size,grownCap w (xs.length+ys.length) f.cap e⟩ else(m.give [yn] BX n).inf k,own:=fun c=>if c=w.heap.size then some n else if f.blk=some c then none else(m.give [yn] BX n).own c}
    (((s.er [yn]).er [n]).blk n<|.data i.size (xs++ys) true none) a (w.drew.alloc<|.cells (olds.toArray++news.toArray++Builtin.zeroCells z.cells (grownCap w (xs.length+ys.length) f.cap e - (xs.length+ys.length))) e):=by
   refine R1.renew E2 hn1 (fun j b g hj hg hgb=> ?_) (fun j hj=>by simp[hj]) ?_ ⟨fun b j hb=> ?_,fun b hb hW=> ?_⟩ (R.fr.drew.alloc _)
   ·have HJ:=R1.hp j;rw[hg] at HJ;obtain⟨k0,hk0⟩:=zY.some_blk HJ;rw[hk0] at HJ;unfold zY at HJ;simp only[hgb] at HJ;obtain⟨_,g2,cells,T,g4,_⟩:=HJ;have:=zL g4;refine⟨?_,hheap b _ g4⟩;simp only;rw[if_neg (by omega),if_neg ?_]
    ·exact g2
    ·intro e';rw[hroot1 b e'] at g2;cases g2;exact hj rfl
   ·simp only[if_true];unfold zY;have hth:∀c∈bs0++BX,(w.drew.alloc<|.cells (olds.toArray++news.toArray++Builtin.zeroCells z.cells (grownCap w (xs.length+ys.length) f.cap e - (xs.length+ys.length))) e).heap[c]? =w.heap[c]?∧c < w.heap.size:=fun c hc=>by
     rcases List.mem_append.1 hc with hc|hc
     ·obtain⟨x,y,zz,hx⟩:=RdLL.there _ _ _ _ hor c hc;exact⟨hheap c _ hx,zL hx⟩
     ·obtain⟨x,y,zz,hx⟩:=RdLL.there _ _ _ _ hr c hc;exact⟨hheap c _ hx,zL hx⟩
    refine⟨.inl R.fr.size,by simp,_,e,X5 (w:=w.drew),Nat.le_of_eq hsize.symm,rfl,by simp,bs0++BX,?_,fun _=>⟨?_,fun c hc=> ?_⟩,by simp⟩
    ·simp only[Array.toList_append,List.append_assoc];refine RdLL.append (qa (us:=olds) (fun j hj=> ?_)<|RdLL.congr _ _ _ _ (fun c hc=>(hth c (by simp[hc])).1) hor) ?_
     ·rw[List.getElem?_append_left (by omega)]
     ·rw[List.drop_left' (by omega)];refine qa (us:=news) (fun j hj=> ?_) (RdLL.congr _ _ _ _ (fun c hc=>(hth c (by simp[hc])).1) hr);rw[List.getElem?_append_left (by omega)]
    ·rw[List.nodup_append];exact⟨q9a,hnx,fun c hc c' hc' e'=>hnX c (q9b c hc).1 (e'▸hc')⟩
    ·have hlt':=(hth c hc).2;refine⟨?_,by simp only[ne_eq,Option.some.injEq];omega⟩;simp only;rw[if_neg (by omega)];rcases List.mem_append.1 hc with hc|hc
     ·rw[if_neg (q9b c hc).2];exact own1 c (q9b c hc).1
     ·rw[if_neg (fun e'=> ?_)]
      ·exact Jc c hc
      ·have HN:=R.hp n;rw[hf] at HN;obtain⟨k0,hk0⟩:=zY.some_blk HN;rw[hk0] at HN;unfold zY at HN;simp only[e'] at HN;exact hnX c HN.2.1 hc
   ·simp only at hb ⊢;have hs2:(w.drew.alloc<|.cells (olds.toArray++news.toArray++Builtin.zeroCells z.cells (grownCap w (xs.length+ys.length) f.cap e - (xs.length+ys.length))) e).heap.size=w.heap.size+1:=YO (w:=w.drew);split at hb
    ·rename_i e5;subst e5;rw[hs2];omega
    ·split at hb
     ·cases hb
     ·have:=R1.own.1 b j hb;rw[hs2];omega
   ·have hsz0:=R.fr.size;simp only;rw[if_neg (by omega)];by_cases e7:f.blk=some b
    ·exfalso;have HN:=R.hp n;rw[hf] at HN;obtain⟨k0,hk0⟩:=zY.some_blk HN;rw[hk0] at HN;unfold zY at HN;simp only[e7] at HN;rcases HN.1 with h|h
     ·omega
     ·exact hW h
    ·rw[if_neg e7];exact R1.own.2 b hb hW
  have R3:=R2.set hn (v:= .one (.sl n 0 (xs.length+ys.length))) (u:= .slice (some ⟨w.heap.size,0,none⟩) (xs.length+ys.length) (grownCap w (xs.length+ys.length) f.cap e)) ⟨rfl,⟨some w.heap.size,i.size,grownCap w (xs.length+ys.length) f.cap e⟩,by simp,by simpa using hge,some ⟨w.heap.size,0,none⟩,by simp,fun _=>⟨w.heap.size,rfl,by simp⟩⟩;exact qY (runs _ _ _ _ hu hv hrun) (by rw[hd];exact hK _ _ _ R3)
theorem zfA{P:Program}{nn:Nat}{L:List RO}{s:St}{Q':St→Prop}{d sz bytes:Nat}{zs:List D}{x' y':Opd}{n len yn ylen:Nat}{xs ys:List (List D)}{cp cpy:Option Nat}(hxv:s.ev x'= .one (.sl n 0 len))(hk:s.hp n=some (.data sz xs true cp))(hlen:len=xs.length)(hyv:s.ev y'= .one (.sl yn 0 ylen))(hyk:s.hp yn=some (.data sz ys true cpy))(hyl:ylen=ys.length)
  (hnn:n≠yn) (hlt:yn < 1000000) (hn1:n < 1000000) (hb1:xs.length+ys.length≤big) (hb2:bytes≤65536)
  (h:RM0 P nn L ((((s.er [yn]).er [n]).blk n<|.data sz (xs++ys) true none).set d<|.one<|.sl n 0 (xs.length+ys.length)) Q'):RM0 P nn (⟨⟨none,.app d sz bytes zs x' y'⟩,0,[]⟩::L) s Q':=
 RM0.step (fun cx m o a w K Q ho R hK=>by
  obtain⟨x,y,t,e,i,z,hop,ht,hi,hz,rfl,hzs,rfl,hd,hdn,hx,hy⟩:=zbK ho;exact zeW R hop ht hi hz hzs hd hdn hx hy hxv hk hlen hyv hyk hyl hnn hlt hn1 hb1 hb2 hK) h
end
section
variable {P:Program} {nn:Nat} {L:List RO} {l l' gl gl':bB} {h h':bC} {Q:St→Prop} {d:Nat} {x y:Opd}
theorem zdu{α:Type}{f:α→List D}{n len yn ylen sz bytes q:Nat}{zs:List D}{cp cpy:Option Nat}{xs ys:List α}{l1 l2 gl1 gl2:bB}{hh1 hh2:bC}(hx:Ev l x (.one<|.sl n 0 len))(hy:Ev l y (.one<|.sl yn 0 ylen))(hb:LB h n (.data sz (xs.map f) true cp))(hl:xs.length=len)(hyb:LB h yn (.data sz (ys.map f) true cpy))(hyl:ys.length=ylen)
  (hne:Nat.beq n yn=false) (hlt:Nat.blt yn 1000000=true) (hn:Nat.blt n 1000000=true) (hq:(xs++ys).length=q) (hle:q≤2147483648) (hby:bytes≤65536) (h1:erL [yn] l l1) (h2:erH [yn] h hh1) (h3:erL [yn] gl gl1) (h4:erL [n] l1 l2) (h5:erH [n] hh1 hh2) (h6:erL [n] gl1 gl2)
  (K:RM P nn L (mk ((d,.one<|.sl n 0 q)::l2) ((n,.data sz ((xs++ys).map f) true none)::hh2)<|lk gl2) Q):RM P nn (⟨⟨none,.app d sz bytes zs x y⟩,0,[]⟩::L) (mk l h<|lk gl) Q:=by
 subst hl;subst hq;subst hyl;refine⟨zfA (n:=n) (yn:=yn) hx.ev hb (by simp) hy.ev hyb (by simp) (Nat.ne_of_beq_eq_false hne) (by rwa [Nat.blt_eq] at hlt) (by rwa [Nat.blt_eq] at hn) (by unfold big;simp at hle ⊢;omega) hby ?_⟩;rw[XK h1 h2 h3,XK h4 h5 h6];have K:=K.out;simp only[List.map_append,List.length_append] at K;rw[List.length_map,List.length_map];exact K
end
end Go.AW
