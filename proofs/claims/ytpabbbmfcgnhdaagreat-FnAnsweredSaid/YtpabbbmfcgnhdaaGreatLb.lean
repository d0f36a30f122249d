/- That each further operation does in the model what the compact one says, part five: room, copies, appended zeros. Lemmas. Conditions: none. -/
import Derived.Test.YtpabbbmfcgnhdaaGreatL
set_option linter.unusedVariables false
namespace Go.AW
variable {cx:Cx} {m:M} {s:St} {a:Act} {w:World} {o:Oper} {K:Act→World→Prop} {Q:Exit→Act→World→Prop}
theorem zgH{o:Bool}{h:Hp}:∀{ds:List D} {vs:List Value} {bs:List Nat},ds.all D.flat=true→RdL o h ds vs bs→bs=[]∧RdL true h ds vs []
 |[],_,_,_,H=>by simp only[RdL] at H ⊢;exact⟨H.2,H.1,trivial⟩
 |d::ds,vs,bs,hf,H=>by
  simp only[List.all_cons,Bool.and_eq_true] at hf;simp only[RdL] at H ⊢;obtain⟨v,vs',b1,b2,rfl,rfl,hc,h1,h2⟩:=H;obtain⟨rfl,k2⟩:=zgH hf.2 h2;have e1:=Zh hf.1 h1;subst e1;refine⟨rfl,v,vs',[],[],rfl,rfl,hc,?_,k2⟩;have hf1:=hf.1;cases d<;>first|(cases hf1;done)|(simp only[Rd] at h1 ⊢;exact h1)
theorem zeX{o:Bool}{h:Hp}{sz:Nat}:∀{xs:List (List D)} {vs:List Value} {bs:List Nat},(xs.all fun e=>e.all D.flat)=true→RdLL o h sz xs vs bs→bs=[]∧RdLL true h sz xs vs []
 |[],_,_,_,H=>by simp only[RdLL] at H ⊢;exact⟨H,trivial⟩
 |e::es,vs,bs,hf,H=>by
  simp only[List.all_cons,Bool.and_eq_true] at hf;simp only[RdLL] at H ⊢;obtain⟨b1,b2,rfl,hl,h1,h2⟩:=H;obtain⟨rfl,k1⟩:=zgH hf.1 h1;obtain⟨rfl,k2⟩:=zeX hf.2 h2;exact⟨rfl,[],[],rfl,hl,k1,k2⟩
theorem zls(R:zt cx m s a w){d:Nat}{ts:Array TypeId}{t e:TypeId}{x:Operand}{x':Opd}(ho:o.op= .call {callee:= .builtin .cap,args:=#[x],argTypes:=ts})(ht0:ts[0]? =some t)(ht:cx.P.underlying t=some (.slice e))(hd:o.dst=some d)(hn:d < cx.n)(hx:zJ x=some x'){out:Out}
  (he:ev s (.cap d x')=some out) (hK:∀m' a' w',zt cx m' (s.app out) a' w'→K a' w'):o.wp cx.P a w K Q:=by
 have hp:=R.opd hx;simp only[ev] at he;split at he;rotate_left
 ·cases he
 rename_i n off len hxv;split at he;rotate_left
 ·cases he
 rename_i z xs own c hk;cases he;rw[hxv] at hp;obtain⟨f,hf,hcap,ad,hu,had⟩:=ye hp;have hN:=R.hp n;rw[hf,hk] at hN;have hfc:f.cap=c:=by
  unfold zT at hN;cases hb:f.blk with
  |none=>
   simp only[hb] at hN;obtain⟨_,_,_,_,he,_,h3⟩:=hN;cases he;exact h3 c rfl
  |some b=>
   simp only[hb] at hN;obtain⟨_,_,_,_,_,_,_,h3,_⟩:=hN;exact h3 c rfl
 subst hfc;refine qC R hd hn (yS _ _) ?_ hK;simp[execOp,ho,resolve,hu,invoke,builtin,Builtin.cap_,ht0,zp ht,goInt]
theorem zki(R:zt cx m s a w){d sz:Nat}{ts:Array TypeId}{t e:TypeId}{i:TypeInfo}{x y:Operand}{x' y':Opd}(ho:o.op= .call {callee:= .builtin .copy,args:=#[x,y],argTypes:=ts})(ht0:ts[0]? =some t)(ht:cx.P.underlying t=some (.slice e))(hi:cx.P.info? e=some i)(hsz:i.size=sz)
  (hd:o.dst=some d) (hn:d < cx.n) (hx:zJ x=some x') (hy:zJ y=some y') {out:Out} (he:ev s (.copy d sz x' y')=some out) (hK:∀m' a' w',zt cx m' (s.app out) a' w'→K a' w'):o.wp cx.P a w K Q:=by
 have hp:=R.opd hx;have h2:=R.opd hy;simp only[ev] at he;split at he;rotate_left
 ·cases he
 rename_i n off len hxv;split at he;rotate_left
 ·cases he
 rename_i z xs own cp hk;simp only[obi] at he;obtain⟨ys,hys,he⟩:=he;split at he;rotate_left
 ·cases he
 rename_i hc;obtain⟨rfl,hle⟩:=hc;cases he;rw[hxv] at hp;obtain⟨f,hf,hcap,ad,hu,had⟩:=ye hp;have hsrc:∃ad' l' c' news bs,a.eval y= .slice ad' l' c'∧Nat.min l' len=min ys.length len∧news.length=ys.length * z∧RdLL own w.heap z ys news bs∧(own=true→bs=[])∧(∀b∈bs,m.own b=none)∧
   (ys=[]∨∃b,ad'=some b∧∀(j:Nat) (x:Value),news[j]? =some x→w.cell? (b.add j)=some x):=by
  unfold V.upTo at hys;split at hys
  ·rename_i n2 off2 len2 hyv;rw[hyv] at h2;obtain⟨f2,hf2,hcap2,ad2,hu2,had2⟩:=ye h2;have hrel:qK m w.heap (.one<|.sl n2 off2<|min len2 len) (.slice ad2 (min len2 len) (f2.cap - off2)):=⟨rfl,f2,hf2,by have:=Nat.min_le_left len2 len;omega,ad2,rfl,had2⟩;obtain⟨ad',c',news,bs,hv,hl,hr,hbs0,hbs,hcell⟩:=XR R hrel hys;simp only[Value.slice.injEq] at hv;obtain⟨rfl,hlen,rfl⟩:=hv;refine⟨_,_,_,news,bs,hu2,?_,hl,hr,hbs0,hbs,hcell⟩;rw[←hlen];show min len2 len=min (min len2 len) len;omega
  ·obtain⟨ad',c',news,bs,hv,hl,hr,hbs0,hbs,hcell⟩:=XR R h2 hys;exact⟨_,_,_,news,bs,hv,rfl,hl,hr,hbs0,hbs,hcell⟩
 obtain⟨ad',l',c',news,bs,hv,hmin,hl,hr,hbs0,hbs,hcell⟩:=hsrc;have hrun0:∀v w',(Builtin.copy_ ts o.type #[.slice ad len (f.cap - off),.slice ad' l' c']).run cx.P w= .ok v w'→(execOp a.eval o).run cx.P w= .ok (.value v) w':=fun v w' h=>by
  unfold execOp;simp only[ho,resolve,invoke,builtin,Sem.run_bind,Sem.run_pure,Result.andThen_ok,List.map_toArray,List.map_cons,List.map_nil,hu,hv,h]
 by_cases hk0:min ys.length len=0
 ·have hrun:(Builtin.copy_ ts o.type #[.slice ad len (f.cap - off),.slice ad' l' c']).run cx.P w= .ok (.int .i64 ((min ys.length len:Nat):Int)) w:=by
   rw[hk0];cases ad<;>cases ad'<;>simp[Builtin.copy_,ht0,zp ht,qt hi,Builtin.lenOf,hmin,hk0,Builtin.firstCells,loadCells,loadCellsFrom,storeCells,goInt]
  refine js (hrun0 _ _ hrun) ?_;rw[hd];refine hK m _ _ ?_;have e1:xs.take off++ys.take len++xs.drop (off+min ys.length len)=xs:=by
   rw[hk0];have:ys.take len=[]:=List.eq_nil_of_length_eq_zero (by rw[List.length_take];omega);rw[this];simp
  rw[e1];have:s.app ⟨[],some (d,.one<|.d<|.int .i64 ((min ys.length len:Nat):Int)),[(n,.data z xs own cp)]⟩=s.set d (.one<|.d<|.int .i64 ((min ys.length len:Nat):Int)):=by
   unfold St.app St.erOpt St.blks St.blks St.setOpt;simp only;rw[zc1 s hk]
  rw[this];exact R.set hn (yS _ _)
 ·have hN:=R.hp n;rw[hf,hk] at hN;obtain⟨b,hb,hadb⟩:=had (by omega);unfold zT at hN;simp only[hb] at hN;obtain⟨g1,g2,cells,T,g4,g5,g6,g6',bs0,g8,g9,g10⟩:=hN;rcases hcell with hce|⟨b0,hb0,hcell⟩
  ·subst hce;simp at hk0
  subst hb0;have hfits:=g8.fits;simp only[Array.length_toList] at hfits;have hkl:min ys.length len≤len:=Nat.min_le_right _ _;have hky:min ys.length len≤ys.length:=Nat.min_le_left _ _;have hc1:(off+min ys.length len) * z≤f.cap * z:=Nat.mul_le_mul_right _ (by omega);rw[Nat.add_mul] at hc1;have hc2:min ys.length len * z≤ys.length * z:=Nat.mul_le_mul_right _ hky;have hnl:(news.take (min ys.length len * z)).length=min ys.length len * z:=by rw[List.length_take,hl];omega
  obtain⟨bx,by',hbx,hr1,_⟩:=hr.split (min ys.length len);have hytl:(ys.take<|min ys.length len).length=min ys.length len:=by rw[List.length_take];omega
  have hr2:RdLL own w.heap z (ys.take<|min ys.length len) (news.take (min ys.length len * z)) bx:=qu (fun j hj=>by
   rw[hytl] at hj;rw[List.getElem?_take,if_pos hj]) hr1
  have hone:∀v∈news.take (min ys.length len * z),v.oneCell'=true:=fun v hv=>by
   have key:∀{es:List D} {vs:List Value} {bs:List Nat},RdL own w.heap es vs bs→∀v∈vs,v.oneCell'=true:=by
    intro es;induction es with
    |nil=>intro vs bs H v hv;simp only[RdL] at H;rw[H.1] at hv;cases hv
    |cons e es ih=>
     intro vs bs H v hv;simp only[RdL] at H;obtain⟨v0,vs',b1,b2,rfl,rfl,hc,h1,h2⟩:=H;rcases List.mem_cons.1 hv with rfl|hv
     ·exact j8 hc h1
     ·exact ih h2 v hv
   have key2:∀{es:List (List D)} {vs:List Value} {bs:List Nat},RdLL own w.heap z es vs bs→vs.length=es.length * z→∀v∈vs,v.oneCell'=true:=by
    intro es;induction es with
    |nil=>intro vs bs H hl v hv;have:vs=[]:=List.eq_nil_of_length_eq_zero (by simpa using hl);rw[this] at hv;cases hv
    |cons e es ih=>
     intro vs bs H hl v hv;simp only[RdLL] at H;obtain⟨b1,b2,rfl,hel,h1,h2⟩:=H;rw[←List.take_append_drop z vs] at hv;rcases List.mem_append.1 hv with hv|hv
     ·exact key h1 v hv
     ·refine ih h2 ?_ v hv;rw[List.length_drop,hl,List.length_cons,Nat.succ_mul];omega
   exact key2 hr2 (by rw[hnl,hytl]) v hv
  have hfit2:off * z+(news.take (min ys.length len * z)).length≤cells.toList.length:=by
   rw[hnl,Array.length_toList];rw[g6] at g5;exact Nat.le_trans hc1 g5
  obtain⟨p1,p2⟩:=R.poke (blk:= .data z (xs.take off++ys.take len++xs.drop (off+min ys.length len)) own cp) (off:=off * z) hf hb g4 (us:=news.take (min ys.length len * z)) (by
   rw[Array.length_toList] at hfit2;exact hfit2) hone (fun E=>by
   refine⟨g6,g6',?_⟩;have hcong:∀{es:List (List D)} {vs:List Value} {cs:List Nat},RdLL own w.heap z es vs cs→(own=true→∀c∈cs,m.own c=some n∧f.blk≠some c)→(own=false→∀c∈cs,m.own c=none)→
     RdLL own (w.setRow b (splice cells.toList (off * z)<|news.take (min ys.length len * z)).toArray).heap z es vs cs:=fun H h1 h2=>by
    refine RdLL.congr _ _ _ _ (fun c hc=> ?_) H;obtain⟨x1,x2,x3,hx⟩:=RdLL.there _ _ _ _ H c hc;cases own with
    |true=>exact(E.hid c x1 x2 x3 n f hx O hf (h1 O c hc).1 (h1 O c hc).2).2
    |false=>exact(E.free c x1 x2 x3 hx<|h2 O c hc).2
   have hbx0:own=true→bx=[]:=fun e=>by
    have:=hbs0 e;rw[this] at hbx;exact(List.append_eq_nil_iff.1 hbx.symm).1
   have hbxn:∀c∈bx,m.own c=none:=fun c hc=>hbs c (by rw[hbx];simp[hc]);have k1:=hcong g8 (fun e c hc=>(g9 e).2 c hc) (fun e c hc=>g10 e c hc);have k2:=hcong hr2 (fun e c hc=>by rw[hbx0 e] at hc;cases hc) (fun e c hc=>hbxn c hc);obtain⟨p,q,hset,hsub⟩:=RdLL.splice k1 k2 (by rw[hnl,hytl]) (off:=off) hle hfit2;have e1:xs.take off++ys.take len++xs.drop (off+min ys.length len)=xs.take off++ys.take (min ys.length len)++xs.drop (off+(ys.take<|min ys.length len).length):=by
    rw[hytl];congr 2;rw[Nat.min_comm,←List.take_take,List.take_length]
   rw[e1];refine⟨p++bx++q,hset,fun e=> ?_,fun e c hc=> ?_⟩
   ·rw[hbx0 e,List.append_nil];exact⟨List.Nodup.sublist hsub (g9 e).1,fun c hc=>(g9 e).2 c (hsub.subset hc)⟩
   ·simp only[List.mem_append] at hc;rcases hc with(hc|hc)|hc
    ·exact g10 e c (hsub.subset (by simp[hc]))
    ·exact hbxn c hc
    ·exact g10 e c (hsub.subset (by simp[hc])))
  have hrun:(Builtin.copy_ ts o.type #[.slice ad len (f.cap - off),.slice (some b0) l' c']).run cx.P w= .ok (.int .i64 ((min ys.length len:Nat):Int)) (w.setRow b (splice cells.toList (off * z)<|news.take (min ys.length len * z)).toArray):=by
   subst hadb;have hfc:=run_firstCells_some (P:=cx.P) w z (min ys.length len) b0 l' c' (news.take (min ys.length len * z)) hnl (fun j v hj=>hcell j v (by
    rw[List.getElem?_take] at hj;split at hj
    ·exact hj
    ·cases hj))
   rw[g6] at *;simp only[Builtin.copy_,ht0,List.getElem?_toArray,List.getElem?_cons_zero,List.getElem?_cons_succ,Sem.run_bind,zp ht,qt hi,hsz,Builtin.lenOf,hmin,Result.andThen_ok,Sem.run_pure,hfc,p2,goInt]
  refine js (hrun0 _ _ hrun) ?_;rw[hd];refine hK m _ _ ?_;exact p1.set hn (yS _ _)
theorem zc7{P:Program}(t tn ty e:TypeId)(i:TypeInfo)(z:Value)(kn kq:IntKind)(ht:P.underlying t=some (.slice e))(htn:P.underlying tn=some (.int kn))(hi:P.info? e=some i)(hz:i.zero=some z)
  (b:Option Addr) (sLen sCap:Nat) (olds:List Value) (hlo:olds.length=sLen * i.size) (holds:sLen=0∨∃ad,b=some ad∧∀(j:Nat) v,olds[j]? =some v→w.cell? (ad.add j)=some v)
  (n:Nat) (hs:0 < i.size) (hn0:0 < n) (hg:sCap < sLen+n) (h63:((sLen+n:Nat):Int)≤9223372036854775807) (hfit:Builtin.nextslicecap (sLen+n) sCap * i.bytes≤281474976710656) (hn48:n * i.bytes≤281474976710656):
  (Builtin.append_ #[t,tn] ty #[.slice b sLen sCap,.int kq n]).run P w=
   .ok (.slice (some ⟨w.heap.size,0,none⟩) (sLen+n)<|grownCap w (sLen+n) sCap e)
    (w.drew.alloc<|.cells (olds.toArray++Builtin.zeroCells z.cells n++Builtin.zeroCells z.cells (grownCap w (sLen+n) sCap e - (sLen+n))) e):=by
 have hn:¬(sLen+n≤sCap):=by omega
 have h63':¬(9223372036854775807 < ((sLen:Int)+(n:Int))):=by omega
 have h48':¬(281474976710656 < Builtin.nextslicecap (sLen+n) sCap * i.bytes):=by omega
 have hw:IntKind.i64.wrap (n:Int)=n:=by rw[IntKind.wrap_i64];omega
 have h48i:¬(281474976710656 < (n:Int) * (i.bytes:Int)):=by
  rw[←Int.natCast_mul];omega
 have hneg:¬((n:Int) < 0):=by omega
 have hns:¬(n * i.size=0):=Nat.mul_ne_zero (by omega) (by omega);have hfo:(Builtin.firstCells i.size sLen<|.slice b sLen sCap).run P w.drew= .ok olds.toArray w.drew:=by
  rcases holds with rfl|⟨ad',rfl,hcell⟩
  ·have:olds=[]:=List.eq_nil_of_length_eq_zero (by simpa using hlo);subst this;cases b<;>simp[Builtin.firstCells,loadCells,loadCellsFrom]
  ·exact run_firstCells_some (P:=P) w.drew i.size sLen ad' sLen sCap olds hlo (by simpa using hcell)
 simp[Builtin.append_,run_underlying ht,run_underlying htn,sizeOf,typeInfo,zeroValue,hi,hz,asInt,asIntOf,hw,hn,hneg,hns,h63',h48',h48i,Question.forced,hfo,newRow,grownCap]
theorem zoB(R:zt cx m s a w){d sz bytes:Nat}{zs:List D}{t tn e:TypeId}{kn:IntKind}{i:TypeInfo}{z:Value}{x y:Operand}{x' y':Opd}(ho:o.op= .call {callee:= .builtin .append,args:=#[x,y],argTypes:=#[t,tn]})(ht:cx.P.underlying t=some (.slice e))(htn:cx.P.underlying tn=some (.int kn))
  (hi:cx.P.info? e=some i) (hz:i.zero=some z) (hsz:i.size=sz) (h0:sz≠0) (hzs:∃zs0 fx,z.cells.toList.mapM zaf=some zs0∧zs=JG zs0 fx) (hzl:zs.length=sz) (hby:i.bytes=bytes) (hd:o.dst=some d) (hn:d < cx.n) (hx:zJ x=some x') (hy:zJ y=some y') {out:Out}
  (he:ev s (.apm d sz bytes zs x' y')=some out) (hK:∀m' a' w',zt cx m' (s.app out) a' w'→K a' w'):o.wp cx.P a w K Q:=by
 obtain⟨zs0,fx,hzs,rfl⟩:=hzs;have h1:=R.opd hx;have h2:=R.opd hy;simp only[ev] at he;split at he;rotate_left
 ·cases he
 rename_i n len hxv;split at he;rotate_left
 ·cases he
 rename_i zz xs own c hk hfree;simp only[obi] at he;obtain⟨q,hq,he⟩:=he;split at he;rotate_left
 ·cases he
 rename_i hc;obtain⟨rfl,hq0,hle,hcl,hbig,hbyt,hfl⟩:=hc;cases he;subst hsz;subst hby
 rw[hxv] at h1;obtain⟨f,hf,hcap,xa,hu,had⟩:=ye h1;have hyv:∃kq:IntKind,a.eval y= .int kq q:=by
  unfold V.nat at hq;split at hq
  ·rename_i kq zq hyq;split at hq
   ·rename_i hge;cases hq;rw[hyq] at h2;refine⟨kq,?_⟩;rw[ZB h2];congr 1;omega
   ·cases hq
  ·cases hq
 obtain⟨kq,hyv⟩:=hyv;have hN:=R.hp n;rw[hf,hk] at hN;have runs:∀v' w',(Builtin.append_ #[t,tn] o.type #[a.eval x,a.eval y]).run cx.P w= .ok v' w'→(execOp a.eval o).run cx.P w= .ok (.value v') w':=by
  intro v' w' hr;simp only[execOp,ho,resolve,Sem.run_bind,Sem.run_pure,Result.andThen_ok,invoke,builtin];simp[hr]
 have hold:f.cap=c∧∃olds bs0,olds.length=len * i.size∧(len=0∨∃ad,xa=some ad∧∀(j:Nat) v,olds[j]? =some v→w.cell? (ad.add j)=some v)∧RdLL own w.heap i.size (xs.take len) olds bs0:=by
  unfold zT at hN;cases hfb:f.blk with
  |none=>
   simp only[hfb] at hN;obtain⟨q1,z0,o0,c0,q2,q3,q4⟩:=hN;simp only[Blk.data.injEq] at q2;obtain⟨rfl,rfl,rfl,rfl⟩:=q2;have:len=0:=by simpa using hle
   subst this;exact⟨q4 c rfl,[],[],by simp,.inl rfl,by simp[RdLL]⟩
  |some b=>
   simp only[hfb] at hN;obtain⟨q1,q2,cells,T,q4,q5,q6,q7,bs0,q8,q9,q10⟩:=hN;have hfits:=q8.fits;simp only[Array.length_toList] at hfits;have hle2:len * i.size≤xs.length * i.size:=Nat.mul_le_mul_right _ hle;obtain⟨b1,b2,rfl,j1,_⟩:=q8.split len;refine⟨q7 c rfl,cells.toList.take (len * i.size),b1,by simp only[List.length_take,Array.length_toList];omega,?_,qu (fun j hj=>by rw[List.getElem?_take,if_pos (by rw[List.length_take] at hj;have:min len xs.length≤len:=Nat.min_le_left _ _;have:=Nat.mul_le_mul_right i.size this;omega)]) j1⟩;by_cases h0:len=0
   ·exact .inl h0
   ·obtain⟨b',hb',rfl⟩:=had (by omega);rw[hfb] at hb';cases hb';refine .inr ⟨_,rfl,fun j v hj=> ?_⟩;rw[Qp,cell_of_row w b _ cells T _ q4];rw[List.getElem?_take] at hj;split at hj
    ·simpa using hj
    ·cases hj
 obtain⟨hfc,olds,bs0,hol,hocell,hor⟩:=hold;subst hfc;have hxfl:((xs.take len).all fun e=>e.all D.flat)=true:=by
  rw[List.all_eq_true] at hfl ⊢;exact fun e he=>hfl e (List.mem_of_mem_take he)
 obtain⟨_,hor'⟩:=zeX hxfl hor;have b1:((len+q:Nat):Int)≤9223372036854775807:=by unfold big at hbig;omega
 have hmul:(len+q) * i.bytes≤2147483648 * 65536:=Nat.mul_le_mul hbig hbyt;have b2:Builtin.nextslicecap (len+q) f.cap * i.bytes≤281474976710656:=growslice_fits hcl (by omega);have b3:q * i.bytes≤281474976710656:=by
  have:q * i.bytes≤(len+q) * i.bytes:=Nat.mul_le_mul_right _ (by omega);omega
 have hge:=grownCap_ge w (len+q) f.cap e;have hrun:=zc7 (P:=cx.P) (w:=w) t tn o.type e i z kn kq ht htn hi hz xa len f.cap olds hol hocell q (by omega) hq0 hcl b1 b2 b3;have hrl:=zaT (zs:=fx) (xx (h:=w.heap) hzs) rfl;have hzc:z.cells.size=i.size:=by
  have:=(xx (h:=w.heap) hzs).length;rw[kG] at hzl;simp only[Array.length_toList] at this;omega
 have zc:∀n,(Builtin.zeroCells z.cells n).size=n * i.size:=fun n=>by rw[size_zeroCells,hzc]
 have hsize:(olds.toArray++Builtin.zeroCells z.cells q++Builtin.zeroCells z.cells (grownCap w (len+q) f.cap e - (len+q))).size=grownCap w (len+q) f.cap e * i.size:=by
  simp only[Array.size_append,List.size_toArray,zc,hol];rw[←Nat.add_mul,←Nat.add_mul];congr 1;omega
 have Rd':zt cx m s a w.drew:=R.same O O O rfl;obtain⟨R2,E2⟩:=Rd'.new (n:=d * 64) (k:= .data i.size (xs.take len++List.replicate q (JG zs0 fx)) true none) (f:=⟨some w.heap.size,i.size,grownCap w (len+q) f.cap e⟩) (cells:=olds.toArray++Builtin.zeroCells z.cells q++Builtin.zeroCells z.cells (grownCap w (len+q) f.cap e - (len+q))) (T:=e)
  hfree O (Nat.le_of_eq hsize.symm) (by
   refine⟨rfl,by simp,[],?_,fun _=>⟨List.nodup_nil,by simp⟩,fun h=>by cases h⟩;have hmade:RdLL true (w.drew.alloc<|.cells (olds.toArray++Builtin.zeroCells z.cells q++Builtin.zeroCells z.cells (grownCap w (len+q) f.cap e - (len+q))) e).heap i.size (List.replicate q<|JG zs0 fx) (Builtin.zeroCells z.cells q).toList []:=by
    have:=zbM (RdL.congr (h':=(w.drew.alloc<|.cells (olds.toArray++Builtin.zeroCells z.cells q++Builtin.zeroCells z.cells (grownCap w (len+q) f.cap e - (len+q))) e).heap) _ _ [] (by simp) hrl) q (Builtin.zeroCells z.cells q).toList (fun j hj=>by
     rw[hzl] at hj ⊢;rw[←hzc] at hj ⊢;have hlt:j % z.cells.size < z.cells.size:=Nat.mod_lt _ (by omega);simp only[Builtin.zeroCells,Array.toList_map,List.getElem?_map,Array.getElem?_toList,Array.getElem?_range,hj,if_true,Option.map_some];rw[getElem!_pos z.cells _ hlt,Array.getElem?_eq_getElem hlt])
    rw[hzl] at this;exact this
   have hxl:(xs.take len).length * i.size=olds.length:=by rw[List.length_take,Nat.min_eq_left hle,hol]
   simp only[Array.toList_append,List.append_assoc];have e1:RdLL true (w.drew.alloc<|.cells (olds.toArray++Builtin.zeroCells z.cells q++Builtin.zeroCells z.cells (grownCap w (len+q) f.cap e - (len+q))) e).heap i.size (xs.take len) (olds++((Builtin.zeroCells z.cells q).toList++(Builtin.zeroCells z.cells (grownCap w (len+q) f.cap e - (len+q))).toList)) []:=
    qu (fun j hj=>by rw[List.getElem?_append_left (by omega)]) (RdLL.congr _ _ _ _ (by simp) hor')
   have e2:=RdLL.append (ys:=List.replicate q (JG zs0 fx)) (cs:=[]) e1 (by
    rw[hxl,List.drop_left];exact qu (fun j hj=>by
     rw[List.length_replicate] at hj;rw[List.getElem?_append_left (by rw[Array.length_toList,zc];exact hj)]) hmade)
   simpa using e2)
 have R3:=R2.set hn (v:= .one (.sl (d * 64) 0 (len+q))) (u:= .slice (some ⟨w.heap.size,0,none⟩) (len+q) (grownCap w (len+q) f.cap e)) ⟨rfl,⟨some w.heap.size,i.size,grownCap w (len+q) f.cap e⟩,by simp[M.plus],by simpa using hge,some ⟨w.heap.size,0,none⟩,by simp,fun _=>⟨w.heap.size,rfl,by simp⟩⟩;exact js (runs _ _ (by rw[hu,hyv];exact hrun)) (hK _ _ _ (by rw[hd];exact R3))
end Go.AW
