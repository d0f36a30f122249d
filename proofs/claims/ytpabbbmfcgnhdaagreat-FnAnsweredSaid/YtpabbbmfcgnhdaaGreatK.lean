/- That each further operation does in the model what the compact one says, part five: append and make. Lemmas. Conditions: none. -/
import Derived.Test.YtpabbbmfcgnhdaaGreatJ
set_option linter.unusedVariables false
namespace Go.AW
variable {cx:Cx} {m:M} {s:St} {a:Act} {w:World} {o:Oper} {K:Act→World→Prop} {Q:Exit→Act→World→Prop}
theorem zt.noInf(R:zt cx m s a w){n:Nat}(h:s.hp n=none):m.inf n=none:=by
 have:=R.hp n;rw[h] at this;cases hi:m.inf n with
 |none=>rfl
 |some f=>rw[hi] at this;exact this.elim
theorem zt.virt(R:zt cx m s a w){n sz:Nat}{own:Bool}(hn:s.hp n=none):
  ∃m',zt cx m' (s.blk n<|.data sz [] own none) a w∧Ext [] m w.heap m' w.heap∧m'.inf n=some ⟨none,sz,0⟩:=by
 have hmn:=R.noInf hn;have E:Ext [] m w.heap {inf:=fun k=>if k=n then some ⟨none,sz,0⟩ else m.inf k,own:=m.own} w.heap:=by
  refine⟨fun j _ f hf=> ?_,fun _ _ _ _ _ h=>⟨h,rfl⟩,fun _ _ _ _ _ _ _ _ _ h _=>⟨h,rfl⟩⟩;show(if j=n then _ else m.inf j)=some f;rw[if_neg (by intro e;subst e;rw[hmn] at hf;cases hf)];exact hf
 refine⟨_,⟨R.size,R.defers,fun t=>E.ver0 (R.sl t),fun j=> ?_,R.own,R.fr,fun t=>E.ver0 (R.gh t)⟩,E,by simp⟩
 ·by_cases hj:j=n
  ·subst hj;simp only[St.blk,if_true];unfold zT;exact⟨rfl,sz,own,none,rfl,rfl,by simp⟩
  ·simp only[St.blk,if_neg hj];exact zT.ext E (fun b hb x hx=>⟨hb,rfl⟩) O (R.hp j)
theorem Fr.drew(F:Fr cx w):Fr cx w.drew:=⟨F.os,F.tape,F.output,F.size,F.kept⟩
theorem zb7{o:Bool}{h:Hp}{sz:Nat}{xs ys:List (List D)}{us vs:List Value}{bs cs:List Nat}(H:RdLL o h sz xs us bs)(K:RdLL o h sz ys vs cs)(hv:vs.length=ys.length * sz){off:Nat}(ho:off≤xs.length)(hfit:off * sz+vs.length≤us.length):
  ∃p q,RdLL o h sz (xs.take off++ys++xs.drop (off+ys.length)) (AW.splice us (off * sz) vs) (p++cs++q)∧(p++q).Sublist bs:=by
 obtain⟨b1,b2,rfl,h1,h2⟩:=H.split off;obtain⟨b3,b4,rfl,h3,h4⟩:=h2.split ys.length;refine⟨b1,b4,?_,?_⟩
 ·have hl:(xs.take off).length=off:=by simp;omega
  have hsl:off * sz≤us.length:=by omega
  have e1:RdLL o h sz (xs.take off) (AW.splice us (off * sz) vs) b1:=qu (fun i hi=>by
   rw[hl] at hi;unfold AW.splice;rw[List.append_assoc,List.getElem?_append_left (by simp;omega),List.getElem?_take,if_pos hi]) h1
  have hd1:(AW.splice us (off * sz) vs).drop ((xs.take off).length * sz)=vs++us.drop (off * sz+vs.length):=by
   rw[hl];unfold AW.splice;rw[List.append_assoc,List.drop_left' (by simp;omega)]
  have e2:RdLL o h sz ys (vs++us.drop (off * sz+vs.length)) cs:=qu (fun i hi=>by
   rw[List.getElem?_append_left (by omega)]) K
  have e3:RdLL o h sz (xs.drop (off+ys.length)) ((vs++us.drop (off * sz+vs.length)).drop (ys.length * sz)) b4:=by
   rw[List.drop_left' hv];rw[List.drop_drop] at h4;rw[List.drop_drop] at h4;have:off * sz+vs.length=off * sz+ys.length * sz:=by rw[hv]
   rw[this];exact h4
  have e4:=RdLL.append e2 e3;have e5:=RdLL.append e1 (by rw[hd1];exact e4);simpa[List.append_assoc] using e5
 ·exact List.Sublist.append (List.Sublist.refl _) (List.sublist_append_right _ _)
theorem znV(R:zt cx m s a w){d sz bytes:Nat}{zs:List D}{t e:TypeId}{i:TypeInfo}{z:Value}{x y:Operand}{x' y':Opd}(ho:o.op= .call {callee:= .builtin .append,args:=#[x,y],argTypes:=#[t,t]})(ht:cx.P.underlying t=some (.slice e))
  (hi:cx.P.info? e=some i) (hz:i.zero=some z) (hsz:i.size=sz) (hzs:z.cells.size=sz) (hby:i.bytes=bytes) (hd:o.dst=some d) (hn:d < cx.n) (hx:zJ x=some x') (hy:zJ y=some y') {out:Out}
  (he:ev s (.app d sz bytes zs x' y')=some out) (hK:∀m' a' w',zt cx m' (s.app out) a' w'→K a' w'):o.wp cx.P a w K Q:=by
 subst hsz;subst hby
 have h1:=R.opd hx;have h2:=R.opd hy;have runs:∀u u' v' w',a.eval x=u→a.eval y=u'→(Builtin.append_ #[t,t] o.type #[u,u']).run cx.P w= .ok v' w'→(execOp a.eval o).run cx.P w= .ok (.value v') w':=by
  intro u u' v' w' hu hu' hr;simp only[execOp,ho,resolve,Sem.run_bind,Sem.run_pure,Result.andThen_ok,invoke,builtin];simp[hu,hu',hr]
 have bnd:∀len k cap,cap < len+k→len+k≤big→i.bytes≤65536→((len+k:Nat):Int)≤9223372036854775807∧Builtin.nextslicecap (len+k) cap * i.bytes≤281474976710656:=by
  intro len k cap h1 h2 h3;refine⟨by unfold big at h2;omega,growslice_fits h1 ?_⟩;have:(len+k) * i.bytes≤2147483648 * 65536:=Nat.mul_le_mul h2 h3;omega
 have zc:∀n,(Builtin.zeroCells z.cells n).size=n * i.size:=fun n=>by rw[size_zeroCells,hzs]
 simp only[ev] at he;split at he
 ·
  rename_i hp;rw[hp] at h1;obtain⟨_,xa,hu⟩:=h1;split at he;rotate_left
  ·cases he
  rename_i hfree;simp only[obi] at he;obtain⟨ys,hys,he⟩:=he;split at he<;>simp only[Option.some.injEq,reduceCtorEq] at he;rename_i hb;subst he;obtain⟨ad,c,news,bs,hv,hl,hr,hbs0,hbs,hcell⟩:=XR R h2 hys;by_cases hy0:ys=[]
  ·subst hy0;have hrun:=ku (P:=cx.P) (w:=w) t o.type e i ht hi xa ad 0 0 c (Nat.le_refl _);have hbn:bs=[]:=by
    simp only[RdLL] at hr;exact hr
   obtain⟨m',R',E,hinf⟩:=R.virt (sz:=i.size) (own:=zs.all D.flat) hfree;refine js (runs _ _ _ _ hu hv hrun) (hK m' _ _ ?_);rw[hd];exact R'.set hn (v:= .one (.sl (d * 64) 0 0)) ⟨rfl,_,hinf,by simp,xa,rfl,by simp⟩
  ·have hpos:0 < ys.length:=(List.length_pos_iff.2 hy0);rcases hcell with hc|⟨b0,rfl,hcell⟩
   ·exact absurd hc hy0
   obtain⟨b1,b2⟩:=bnd 0 ys.length 0 (by omega) (by simpa using hb.1) hb.2;have hrun:=xJ (P:=cx.P) (w:=w) t o.type e i z ht hi hz xa 0 0 [] (by simp) (.inl O) b0 ys.length c news hl hcell (by omega) b1 b2;simp only[Nat.zero_add] at hrun;have hge:=grownCap_ge w ys.length 0 e;have Rd':zt cx m s a w.drew:=R.same O O O rfl;have hsize:(#[]++news.toArray++Builtin.zeroCells z.cells (grownCap w ys.length 0 e - ys.length)).size=grownCap w ys.length 0 e * i.size:=by
    simp only[Array.size_append,List.size_toArray,zc,hl,List.length_nil,Nat.zero_add];rw[←Nat.add_mul];congr 1;omega
   obtain⟨R2,E2⟩:=Rd'.new (n:=d * 64) (k:= .data i.size ys (zs.all D.flat) none) (f:=⟨some w.heap.size,i.size,grownCap w ys.length 0 e⟩) (cells:=#[]++news.toArray++Builtin.zeroCells z.cells (grownCap w ys.length 0 e - ys.length)) (T:=e)
    hfree O (Nat.le_of_eq hsize.symm) ⟨rfl,by simp,bs,by
     refine qu (us:=news) (fun j hj=> ?_) (RdLL.congr _ _ _ bs (fun c hc=> ?_) hr);rotate_left
     ·obtain⟨x1,x2,x3,hx⟩:=RdLL.there _ _ _ _ hr c hc;exact Z8 (w:=w.drew) hx
     simp only[Array.toList_append,List.append_assoc];rw[List.getElem?_append_right (by simp),List.getElem?_append_left (by simp;omega)];simp,fun h=>by rw[hbs0 h];exact⟨List.nodup_nil,by simp⟩,fun _ b hb=>by
      obtain⟨x1,x2,x3,hx⟩:=RdLL.there _ _ _ _ hr b hb;have hlt:=zH hx;show(if b=w.drew.heap.size then _ else m.own b)=none;rw[if_neg (by show ¬b=w.heap.size;omega)];exact hbs b hb⟩
   have R3:=R2.set hn (v:= .one (.sl (d * 64) 0 ys.length)) (u:= .slice (some ⟨w.heap.size,0,none⟩) ys.length (grownCap w ys.length 0 e)) ⟨rfl,⟨some w.heap.size,i.size,grownCap w ys.length 0 e⟩,by simp[M.plus],by simpa using hge,some ⟨w.heap.size,0,none⟩,by simp,fun _=>⟨w.heap.size,rfl,by simp⟩⟩;exact js (runs _ _ _ _ hu hv hrun) (hK _ _ _ (by rw[hd];exact R3))
 ·
  rename_i n len hp;rw[hp] at h1;obtain⟨f,hf,hcap,xa,hu,had⟩:=ye h1;have hN:=R.hp n;rw[hf] at hN;split at he;rotate_left
  ·cases he
  rename_i zz xs own cp hk;simp only[obi] at he;obtain⟨ys,hys,he⟩:=he;split at he;rotate_left
  ·split at he;rotate_left
   ·cases he
   rename_i hb;obtain⟨rfl,hb1,hb2⟩:=hb;simp only[Option.some.injEq] at he;subst he;obtain⟨ad,c,news,bs,hv,hl,hr,hbs0,hbs,hcell⟩:=XR R h2 hys;simp only[Nat.sub_zero] at hu;rw[hk] at hN;have hcp:cp.getD 0≤f.cap:=by
    have:=zT.room (s:=s) (n:=n) (f:=f) (by rw[hk];exact hN);unfold St.room at this;rw[hk] at this;exact this
   by_cases hy0:ys=[]
   ·subst hy0;have hrun:=ku (P:=cx.P) (w:=w) t o.type e i ht hi xa ad len f.cap c (by omega);refine js (runs _ _ _ _ hu hv hrun) (hK m _ _ ?_);rw[hd];have e1:xs.take len++[]++xs.drop (len+([]:List (List D)).length)=xs:=by simp
    rw[e1];have e2:s.app ⟨[],some (d,.one<|.sl n 0 (len+([]:List (List D)).length)),[(n,.data i.size xs own cp)]⟩=s.set d (.one<|.sl n 0 (len+([]:List (List D)).length)):=by
     unfold St.app St.erOpt St.blks St.blks St.setOpt;simp only;have:s.blk n (.data i.size xs own cp)=s:=by
      obtain⟨sl,hp,gh⟩:=s;simp only[St.blk];congr 1;funext k;by_cases e:k=n
      ·subst e;simp only[if_true];exact hk.symm
      ·simp only[if_neg e]
     rw[this]
    rw[e2];exact R.set hn ⟨rfl,f,hf,by simpa using hcap,xa,by simp,had⟩
   ·have hpos:0 < ys.length:=(List.length_pos_iff.2 hy0);rcases hcell with hc|⟨b0,rfl,hcell⟩
    ·exact absurd hc hy0
    obtain⟨b,hfb,rfl⟩:=had (by omega);unfold zT at hN;simp only[hfb] at hN;obtain⟨q1,q2,cells,T,q4,q5,q6,q7,bs0,q8,q9,q10⟩:=hN;have hfit:len * i.size+news.length≤cells.size:=by
     rw[hl,←Nat.add_mul,←q6];exact Nat.le_trans (Nat.mul_le_mul_right _ (by omega)) q5
    rw[Nat.zero_mul] at hu;have hrun:=xH (P:=cx.P) (w:=w) t o.type e i ht hi b len f.cap cells T q4 b0 ys.length c news hl hcell (RdLL.cells hr hl) (by omega) hfit;have hsp:(cells.toList.take (len * i.size)++news++cells.toList.drop (len * i.size+news.length)).toArray.size=cells.size:=by
     simp only[List.size_toArray,List.length_append,List.length_take,List.length_drop,Array.length_toList];omega
    have hother:∀c,c≠b→(w.setRow b (cells.toList.take (len * i.size)++news++cells.toList.drop (len * i.size+news.length)).toArray).heap[c]? =w.heap[c]?:=fun c hc=>by
     simp only[World.setRow,Array.getElem?_modify];rw[if_neg (Ne.symm hc)]
    have hcong:∀{es:List (List D)} {vs:List Value} {cs:List Nat},RdLL own w.heap i.size es vs cs→(∀c∈cs,c≠b)→RdLL own (w.setRow b (cells.toList.take (len * i.size)++news++cells.toList.drop (len * i.size+news.length)).toArray).heap i.size es vs cs:=fun H h=>
     RdLL.congr _ _ _ _ (fun c hc=>hother c (h c hc)) H
    have hb0:∀c∈bs0,c≠b:=fun c hc e=>by
     subst e;cases own with
     |true=>exact((q9 O).2 c hc).2 hfb
     |false=>have:=q10 O c hc;rw[q2] at this;cases this
    have hbb:∀c∈bs,c≠b:=fun c hc e=>by
     subst e;have:=hbs c hc;rw[q2] at this;cases this
    obtain⟨R1,E1⟩:=R.upd (n:=n) (k:= .data i.size (xs.take len++ys++xs.drop (len+ys.length)) own cp) hf hfb q4 hsp (by
     refine⟨q6,q7,?_⟩;obtain⟨p,q,hset,hsub⟩:=zb7 (hcong q8 hb0) (hcong hr hbb) hl (off:=len) (by omega) (by rw[Array.length_toList];exact hfit);refine⟨p++bs++q,hset,fun e=> ?_,fun e c hc=> ?_⟩
     ·rw[hbs0 e,List.append_nil];exact⟨List.Nodup.sublist hsub (q9 e).1,fun c hc=>(q9 e).2 c (hsub.subset hc)⟩
     ·simp only[List.mem_append] at hc;rcases hc with(hc|hc)|hc
      ·exact q10 e c (hsub.subset (by simp[hc]))
      ·exact hbs c hc
      ·exact q10 e c (hsub.subset (by simp[hc])))
    refine js (runs _ _ _ _ hu hv hrun) (hK m _ _ ?_);rw[hd];exact R1.set hn (v:= .one (.sl n 0 (len+ys.length))) ⟨rfl,f,hf,by omega,some ⟨b,0,none⟩,by simp,fun _=>⟨b,hfb,by simp⟩⟩
  rename_i hb;obtain⟨rfl,rfl,hb1,hb2,hn1⟩:=hb;simp only[Option.some.injEq] at he;subst he;obtain⟨ad,c,news,bs,hv,hl,hr,hbs0,hbs,hcell⟩:=XR R h2 hys;simp only[Nat.zero_add] at hcap;simp only[Nat.sub_zero] at hu;have hk':=hk;rw[hk] at hN;by_cases hroom:xs.length+ys.length≤f.cap
  ·by_cases hy0:ys=[]
   ·
    subst hy0;have hrun:=ku (P:=cx.P) (w:=w) t o.type e i ht hi xa ad xs.length f.cap c (by omega);have E0:Ext [n] m w.heap m w.heap:=⟨fun _ _ _ h=>h,fun _ _ _ _ _ h=>⟨h,rfl⟩,fun _ _ _ _ _ _ _ _ _ h _=>⟨h,rfl⟩⟩;have R2:zt cx m ((s.er [n]).blk n<|.data i.size (xs++[]) own none) a w:=by
     refine R.renew E0 hn1 (fun j b g hj hg hgb=> ?_) (fun _ _=>rfl) ?_ R.own R.fr
     ·have HJ:=R.hp j;rw[hg] at HJ;obtain⟨k0,hk0⟩:=zT.some_blk HJ;rw[hk0] at HJ;unfold zT at HJ;simp only[hgb] at HJ;exact⟨HJ.2.1,rfl⟩
     ·rw[hf,List.append_nil];unfold zT at hN ⊢;cases hfb:f.blk with
      |none=>
       simp only[hfb] at hN ⊢;obtain⟨q1,z0,o0,c0,q2,q3,_⟩:=hN;cases q2;exact⟨q1,_,_,_,rfl,q3,by simp⟩
      |some b=>
       simp only[hfb] at hN ⊢;obtain⟨q1,q2,cells,T,q4,q5,q6,q7,q8⟩:=hN;exact⟨q1,q2,cells,T,q4,q5,q6,by simp,q8⟩
    refine js (runs _ _ _ _ hu hv hrun) (hK m _ _ ?_);rw[hd];refine R2.set hn (v:= .one (.sl n 0 (xs.length+([]:List (List D)).length))) ⟨rfl,f,hf,by simpa using hcap,xa,by simp,had⟩
   ·
    have hpos:0 < ys.length:=(List.length_pos_iff.2 hy0);rcases hcell with hc|⟨b0,rfl,hcell⟩
    ·exact absurd hc hy0
    obtain⟨b,hfb,rfl⟩:=had (by omega);unfold zT at hN;simp only[hfb] at hN;obtain⟨q1,q2,cells,T,q4,q5,q6,q7,bs0,q8,q9,q10⟩:=hN;have hfit:xs.length * i.size+news.length≤cells.size:=by
     rw[hl,←Nat.add_mul,←q6];exact Nat.le_trans (Nat.mul_le_mul_right _ hroom) q5
    rw[Nat.zero_mul] at hu;have hrun:=xH (P:=cx.P) (w:=w) t o.type e i ht hi b xs.length f.cap cells T q4 b0 ys.length c news hl hcell (RdLL.cells hr hl) hroom hfit;have hsp:(cells.toList.take (xs.length * i.size)++news++cells.toList.drop (xs.length * i.size+news.length)).toArray.size=cells.size:=by
     simp only[List.size_toArray,List.length_append,List.length_take,List.length_drop,Array.length_toList];omega
    obtain⟨R1,E1⟩:=R.upd (n:=n) (k:= .data i.size (xs++ys) own none) hf hfb q4 hsp (by
     have hother:∀c,c≠b→(w.setRow b (cells.toList.take (xs.length * i.size)++news++cells.toList.drop (xs.length * i.size+news.length)).toArray).heap[c]? =w.heap[c]?:=fun c hc=>by
      simp only[World.setRow,Array.getElem?_modify];rw[if_neg (Ne.symm hc)]
     have hne0:∀c∈bs0,c≠b:=fun c hc e=>by
      subst e;cases own with
      |true=>exact((q9 O).2 c hc).2 hfb
      |false=>have:=q10 O c hc;rw[q2] at this;cases this
     have hne1:∀c∈bs,c≠b:=fun c hc e=>by
      subst e;have:=hbs c hc;rw[q2] at this;cases this
     refine⟨q6,by simp,bs0++bs,?_,fun e=> ?_,fun e c hc=> ?_⟩
     ·refine RdLL.append (qu (fun j hj=> ?_)<|RdLL.congr _ _ _ _ (fun c hc=>hother c (hne0 c hc)) q8) ?_
      ·rw[List.append_assoc,List.getElem?_append_left (by simp only[List.length_take,Array.length_toList];omega),List.getElem?_take,if_pos hj]
      ·have e0:(cells.toList.take (xs.length * i.size)++news++cells.toList.drop (xs.length * i.size+news.length)).drop (xs.length * i.size)=news++cells.toList.drop (xs.length * i.size+news.length):=by
        rw[List.append_assoc,List.drop_left' (by simp only[List.length_take,Array.length_toList];omega)]
       show RdLL own _ i.size ys ((cells.toList.take (xs.length * i.size)++news++cells.toList.drop (xs.length * i.size+news.length)).drop (xs.length * i.size)) bs;rw[e0];refine qu (us:=news) (fun j hj=> ?_) (RdLL.congr _ _ _ _ (fun c hc=>hother c (hne1 c hc)) hr);rw[List.getElem?_append_left (by omega)]
     ·have:=hbs0 e;subst this;simp only[List.append_nil];exact q9 e
     ·rcases List.mem_append.1 hc with hc|hc
      ·exact q10 e c hc
      ·exact hbs c hc)
    have E0:Ext [n] m (w.setRow b (cells.toList.take (xs.length * i.size)++news++cells.toList.drop (xs.length * i.size+news.length)).toArray).heap m (w.setRow b (cells.toList.take (xs.length * i.size)++news++cells.toList.drop (xs.length * i.size+news.length)).toArray).heap:=⟨fun _ _ _ h=>h,fun _ _ _ _ _ h=>⟨h,rfl⟩,fun _ _ _ _ _ _ _ _ _ h _=>⟨h,rfl⟩⟩;have R2:zt cx m ((s.er [n]).blk n<|.data i.size (xs++ys) own none) a (w.setRow b (cells.toList.take (xs.length * i.size)++news++cells.toList.drop (xs.length * i.size+news.length)).toArray):=by
     have HN:=R1.hp n;simp only[St.blk,if_true] at HN;have:=R1.renew (k:= .data i.size (xs++ys) own none) E0 hn1 (fun j b g hj hg hgb=> ?_) (fun _ _=>rfl) HN R1.own R1.fr
     ·have e:((s.blk n<|.data i.size (xs++ys) own none).er [n]).blk n (.data i.size (xs++ys) own none)=(s.er [n]).blk n (.data i.size (xs++ys) own none):=by
       simp only[St.er,St.blk];congr 1;funext j;by_cases hj:j=n<;>simp[hj]
      rwa [e] at this
     ·have HJ:=R1.hp j;rw[hg] at HJ;obtain⟨k0,hk0⟩:=zT.some_blk HJ;rw[hk0] at HJ;unfold zT at HJ;simp only[hgb] at HJ;exact⟨HJ.2.1,rfl⟩
    refine js (runs _ _ _ _ hu hv hrun) (hK m _ _ ?_);rw[hd];refine R2.set hn (v:= .one (.sl n 0 (xs.length+ys.length))) ⟨rfl,f,hf,by simpa using hroom,some ⟨b,0,none⟩,by simp,fun _=>⟨b,hfb,by simp⟩⟩
  ·
   have hy0:ys≠[]:=by intro e;subst e;simp at hroom;omega
   rcases hcell with hc|⟨b0,rfl,hcell⟩
   ·exact absurd hc hy0
   obtain⟨b1,b2⟩:=bnd xs.length ys.length f.cap (by omega) hb1 hb2;have hge:=grownCap_ge w (xs.length+ys.length) f.cap e;have hold:∃olds bs0,olds.length=xs.length * i.size∧(xs.length=0∨∃ad,xa=some ad∧∀(j:Nat) v,olds[j]? =some v→w.cell? (ad.add j)=some v)∧RdLL own w.heap i.size xs olds bs0∧
     (own=true→bs0.Nodup∧∀b∈bs0,m.own b=some n∧f.blk≠some b)∧(own=false→∀b∈bs0,m.own b=none)∧f.sz=i.size:=by
    unfold zT at hN;cases hfb:f.blk with
    |none=>
     simp only[hfb] at hN;obtain⟨q1,z0,o0,c0,q2,q3,_⟩:=hN;simp only[Blk.data.injEq] at q2;obtain⟨rfl,rfl,rfl,rfl⟩:=q2;exact⟨[],[],by simp,.inl rfl,by simp[RdLL],by simp,by simp,q3⟩
    |some b=>
     simp only[hfb] at hN;obtain⟨q1,q2,cells,T,q4,q5,q6,q7,bs0,q8,q9,q10⟩:=hN;have hfits:=q8.fits;simp only[Array.length_toList] at hfits;refine⟨cells.toList.take (xs.length * i.size),bs0,by simp only[List.length_take,Array.length_toList];omega,?_,qu (fun j hj=>by rw[List.getElem?_take,if_pos hj]) q8,fun e=>⟨(q9 e).1,fun c hc=>⟨((q9 e).2 c hc).1,by rw[←hfb];exact((q9 e).2 c hc).2⟩⟩,q10,q6⟩;by_cases h0:xs.length=0
     ·exact .inl h0
     ·obtain⟨b',hb',rfl⟩:=had (by omega);rw[hfb] at hb';cases hb';refine .inr ⟨_,rfl,fun j v hj=> ?_⟩;rw[Qp,cell_of_row w b _ cells T _ q4];rw[List.getElem?_take] at hj;split at hj
      ·simpa using hj
      ·cases hj
   obtain⟨olds,bs0,hol,hocell,hor,q9,q10,q6⟩:=hold;have hrun:=xJ (P:=cx.P) (w:=w) t o.type e i z ht hi hz xa xs.length f.cap olds hol hocell b0 ys.length c news hl hcell (by omega) b1 b2;have hsize:(olds.toArray++news.toArray++Builtin.zeroCells z.cells (grownCap w (xs.length+ys.length) f.cap e - (xs.length+ys.length))).size=grownCap w (xs.length+ys.length) f.cap e * i.size:=by
    simp only[Array.size_append,List.size_toArray,zc,hl,hol];rw[←Nat.add_mul,←Nat.add_mul];congr 1;omega
   have hheap:∀(c:Nat) (x:Obj),w.heap[c]? =some x→(w.drew.alloc<|.cells (olds.toArray++news.toArray++Builtin.zeroCells z.cells (grownCap w (xs.length+ys.length) f.cap e - (xs.length+ys.length))) e).heap[c]? =w.heap[c]?:=fun c x hx=>by
    have:=Z8 (w:=w.drew) (o:= .cells (olds.toArray++news.toArray++Builtin.zeroCells z.cells (grownCap w (xs.length+ys.length) f.cap e - (xs.length+ys.length))) e) (b:=c) (x:=x) hx;exact this
   have E2:Ext [n] m w.heap {inf:=fun k=>if k=n then some ⟨some w.heap.size,i.size,grownCap w (xs.length+ys.length) f.cap e⟩ else m.inf k,own:=fun c=>if c=w.heap.size then some n else if f.blk=some c then none else m.own c}
     (w.drew.alloc<|.cells (olds.toArray++news.toArray++Builtin.zeroCells z.cells (grownCap w (xs.length+ys.length) f.cap e - (xs.length+ys.length))) e).heap:=by
    refine⟨fun j hj g hg=> ?_,fun c x y zz hc hoc=>⟨?_,hheap c _ hc⟩,fun c x y zz j gj hc hj hgj hoc hroot=>⟨?_,hheap c _ hc⟩⟩
    ·have:j≠n:=by simpa using hj
     simp[this,hg]
    ·have:=zH hc;simp only;rw[if_neg (by omega)];split
     ·rfl
     ·exact hoc
    ·have:=zH hc;have hjn:j≠n:=by intro e;subst e;simp at hj
     simp only;rw[if_neg (by omega),if_neg ?_]
     ·exact hoc
     ·intro e;have HN:=R.hp n;rw[hf] at HN;obtain⟨k0,hk0⟩:=zT.some_blk HN;rw[hk0] at HN;unfold zT at HN;simp only[e] at HN;rw[HN.2.1] at hoc;cases hoc;exact hjn rfl
   have R2:zt cx {inf:=fun k=>if k=n then some ⟨some w.heap.size,i.size,grownCap w (xs.length+ys.length) f.cap e⟩ else m.inf k,own:=fun c=>if c=w.heap.size then some n else if f.blk=some c then none else m.own c}
     ((s.er [n]).blk n<|.data i.size (xs++ys) own none) a (w.drew.alloc<|.cells (olds.toArray++news.toArray++Builtin.zeroCells z.cells (grownCap w (xs.length+ys.length) f.cap e - (xs.length+ys.length))) e):=by
    refine R.renew E2 hn1 (fun j b g hj hg hgb=> ?_) (fun j hj=>by simp[hj]) ?_ ⟨fun b j hb=> ?_,fun b hb hW=> ?_⟩ (R.fr.drew.alloc _)
    ·have HJ:=R.hp j;rw[hg] at HJ;obtain⟨k0,hk0⟩:=zT.some_blk HJ;rw[hk0] at HJ;unfold zT at HJ;simp only[hgb] at HJ;obtain⟨_,g2,cells,T,g4,_⟩:=HJ;have:=zH g4;refine⟨?_,hheap b _ g4⟩;simp only;rw[if_neg (by omega),if_neg ?_]
     ·exact g2
     ·intro e;have HN:=R.hp n;rw[hf] at HN;obtain⟨k0,hk0⟩:=zT.some_blk HN;rw[hk0] at HN;unfold zT at HN;simp only[e] at HN;rw[HN.2.1] at g2;cases g2;exact hj rfl
    ·simp only[if_true];unfold zT;refine⟨.inl R.fr.size,by simp,_,e,zb9 (w:=w.drew),Nat.le_of_eq hsize.symm,rfl,by simp,bs0++bs,?_,fun e1=> ?_,fun e1 c hc=> ?_⟩
     ·have hth:∀c∈bs0++bs,(w.drew.alloc<|.cells (olds.toArray++news.toArray++Builtin.zeroCells z.cells (grownCap w (xs.length+ys.length) f.cap e - (xs.length+ys.length))) e).heap[c]? =w.heap[c]?:=fun c hc=>by
       rcases List.mem_append.1 hc with hc|hc
       ·obtain⟨x,y,zz,hx⟩:=RdLL.there _ _ _ _ hor c hc;exact hheap c _ hx
       ·obtain⟨x,y,zz,hx⟩:=RdLL.there _ _ _ _ hr c hc;exact hheap c _ hx
      simp only[Array.toList_append,List.append_assoc];refine RdLL.append (qu (us:=olds) (fun j hj=> ?_)<|RdLL.congr _ _ _ _ (fun c hc=>hth c (by simp[hc])) hor) ?_
      ·rw[List.getElem?_append_left (by omega)]
      ·rw[List.drop_left' (by omega)];refine qu (us:=news) (fun j hj=> ?_) (RdLL.congr _ _ _ _ (fun c hc=>hth c (by simp[hc])) hr);rw[List.getElem?_append_left (by omega)]
     ·have:=hbs0 e1;subst this;simp only[List.append_nil];refine⟨(q9 e1).1,fun c hc=>⟨?_,?_⟩⟩
      ·have h3:=(q9 e1).2 c hc;obtain⟨x,y,zz,hx⟩:=RdLL.there _ _ _ _ hor c hc;have:=zH hx;rw[if_neg (by omega),if_neg h3.2];exact h3.1
      ·obtain⟨x,y,zz,hx⟩:=RdLL.there _ _ _ _ hor c hc;have:=zH hx;simp only[ne_eq,Option.some.injEq];omega
     ·have h4:m.own c=none∧c < w.heap.size:=by
       rcases List.mem_append.1 hc with hc|hc
       ·obtain⟨x,y,zz,hx⟩:=RdLL.there _ _ _ _ hor c hc;exact⟨q10 e1 c hc,zH hx⟩
       ·obtain⟨x,y,zz,hx⟩:=RdLL.there _ _ _ _ hr c hc;exact⟨hbs c hc,zH hx⟩
      simp only;rw[if_neg (by omega)];split
      ·rfl
      ·exact h4.1
    ·simp only at hb ⊢;have hs2:(w.drew.alloc<|.cells (olds.toArray++news.toArray++Builtin.zeroCells z.cells (grownCap w (xs.length+ys.length) f.cap e - (xs.length+ys.length))) e).heap.size=w.heap.size+1:=kY (w:=w.drew);split at hb
     ·rename_i e5;subst e5;rw[hs2];omega
     ·split at hb
      ·cases hb
      ·have:=R.own.1 b j hb;rw[hs2];omega
    ·have hsz0:=R.fr.size;simp only;rw[if_neg (by omega)];by_cases e7:f.blk=some b
     ·exfalso;have HN:=R.hp n;rw[hf] at HN;obtain⟨k0,hk0⟩:=zT.some_blk HN;rw[hk0] at HN;unfold zT at HN;simp only[e7] at HN;rcases HN.1 with h|h
      ·omega
      ·exact hW h
     ·rw[if_neg e7];exact R.own.2 b hb hW
   have R3:=R2.set hn (v:= .one (.sl n 0 (xs.length+ys.length))) (u:= .slice (some ⟨w.heap.size,0,none⟩) (xs.length+ys.length) (grownCap w (xs.length+ys.length) f.cap e)) ⟨rfl,⟨some w.heap.size,i.size,grownCap w (xs.length+ys.length) f.cap e⟩,by simp,by simpa using hge,some ⟨w.heap.size,0,none⟩,by simp,fun _=>⟨w.heap.size,rfl,by simp⟩⟩;exact js (runs _ _ _ _ hu hv hrun) (hK _ _ _ (by rw[hd];exact R3))
 ·cases he
end Go.AW
