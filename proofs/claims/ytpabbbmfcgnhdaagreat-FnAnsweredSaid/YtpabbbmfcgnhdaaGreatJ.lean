/- That each further operation does in the model what the compact one says, part four: append, make, literals. Lemmas. Conditions: none. -/
import Derived.Test.YtpabbbmfcgnhdaaGreatI
set_option linter.unusedVariables false
namespace Go.AW
variable {cx:Cx} {m:M} {s:St} {a:Act} {w:World} {o:Oper} {K:Act→World→Prop} {Q:Exit→Act→World→Prop}
theorem RdL.flat{o:Bool}{h:Hp}:∀{xs:List D} {vs:List Value} {bs:List Nat},xs.all D.flat=true→RdL o h xs vs bs→bs=[]∧RdL true h xs vs []
 |[],_,_,_,H=>by simp only[RdL] at H;obtain⟨rfl,rfl⟩:=H;simp[RdL]
 |d::ds,vs,bs,hf,H=>by
  simp only[List.all_cons,Bool.and_eq_true] at hf;simp only[RdL] at H ⊢;obtain⟨v,vs',b1,b2,rfl,rfl,hcell,h1,h2⟩:=H;have e1:=Zh hf.1 h1;subst e1;obtain⟨rfl,h2'⟩:=RdL.flat hf.2 h2;refine⟨rfl,v,vs',[],[],rfl,rfl,hcell,?_,h2'⟩;have hf1:=hf.1;cases d<;>simp[D.flat] at hf1<;>simpa[Rd] using h1
theorem RdLL.flat{o:Bool}{h:Hp}{sz:Nat}:∀{xs:List (List D)} {vs:List Value} {bs:List Nat},(xs.all fun e=>e.all D.flat)=true→RdLL o h sz xs vs bs→bs=[]∧RdLL true h sz xs vs []
 |[],_,_,_,H=>by simp only[RdLL] at H;subst H;simp[RdLL]
 |e::es,vs,bs,hf,H=>by
  simp only[List.all_cons,Bool.and_eq_true] at hf;simp only[RdLL] at H ⊢;obtain⟨b1,b2,rfl,hl,h1,h2⟩:=H;obtain⟨rfl,h1'⟩:=RdL.flat hf.1 h1;obtain⟨rfl,h2'⟩:=RdLL.flat hf.2 h2;exact⟨rfl,[],[],rfl,hl,h1',h2'⟩
theorem RdL.cells{o:Bool}{h:Hp}:∀{xs:List D} {vs:List Value} {bs:List Nat},RdL o h xs vs bs→∀v∈vs,v.oneCell'=true
 |[],_,_,H,v,hv=>by simp only[RdL] at H;rw[H.1] at hv;cases hv
 |d::ds,vs,bs,H,v,hv=>by
  simp only[RdL] at H;obtain⟨u,vs',b1,b2,rfl,rfl,hcell,h1,h2⟩:=H;rcases List.mem_cons.1 hv with rfl|hv
  ·exact j8 hcell h1
  ·exact RdL.cells h2 v hv
theorem RdLL.cells{o:Bool}{h:Hp}{sz:Nat}:∀{xs:List (List D)} {vs:List Value} {bs:List Nat},RdLL o h sz xs vs bs→vs.length=xs.length * sz→∀v∈vs,v.oneCell'=true
 |[],vs,_,_,hl,v,hv=>by simp at hl;subst hl;cases hv
 |e::es,vs,bs,H,hl,v,hv=>by
  simp only[RdLL] at H;obtain⟨b1,b2,rfl,he,h1,h2⟩:=H;rw[←List.take_append_drop sz vs] at hv;rcases List.mem_append.1 hv with hv|hv
  ·exact RdL.cells h1 v hv
  ·exact RdLL.cells h2 (by simp only[List.length_drop,hl,List.length_cons,Nat.succ_mul];omega) v hv
theorem XR(R:zt cx m s a w){sz:Nat}{zs:List D}{own:Bool}{v:V}{u:Value}{ys:List (List D)}(H:qK m w.heap v u)(h:s.elems sz zs own v=some ys):
  ∃ad c news bs,u= .slice ad ys.length c∧news.length=ys.length * sz∧RdLL own w.heap sz ys news bs∧(own=true→bs=[])∧(∀b∈bs,m.own b=none)∧
   (ys=[]∨∃b,ad=some b∧∀(j:Nat) (x:Value),news[j]? =some x→w.cell? (b.add j)=some x):=by
 have emp:∀ad c,u= .slice ad 0 c→ys=[]→∃ad c news bs,u= .slice ad ys.length c∧news.length=ys.length * sz∧RdLL own w.heap sz ys news bs∧(own=true→bs=[])∧(∀b∈bs,m.own b=none)∧
   (ys=[]∨∃b,ad=some b∧∀(j:Nat) (x:Value),news[j]? =some x→w.cell? (b.add j)=some x):=by
  intro ad c hu hy;subst hy;exact⟨ad,c,[],[],hu,by simp,by simp[RdLL],by simp,by simp,.inl rfl⟩
 have row:∀(b off:Nat) (cells:Array Value) (T:TypeId) (fz:Nat×Nat) (news:List Value),w.heap[b]? =some (.cells cells T fz)→(∀(j:Nat) (x:Value),news[j]? =some x→cells[off+j]? =some x)→
   ∀(j:Nat) (x:Value),news[j]? =some x→w.cell? ((⟨b,off,none⟩:Addr).add j)=some x:=by
  intro b off cells T fz news hh hn j x hx;rw[Qp,cell_of_row w b (off+j) cells T fz hh];exact hn j x hx
 unfold St.elems at h;split at h
 ·simp only[Option.some.injEq] at h;subst h;obtain⟨_,ad,hu⟩:=H;exact emp ad 0 hu rfl
 ·rename_i n off len;obtain⟨f,hf,hcap,ad,hu,had⟩:=ye H;have hN:=R.hp n;rw[hf] at hN;split at h
  ·rename_i z cs hk;split at h<;>simp only[omi,reduceCtorEq] at h;rename_i hc;obtain⟨rfl,rfl,hcl,rfl⟩:=hc;obtain⟨ds,hds,rfl⟩:=h;rw[hk] at hN;unfold zT at hN;obtain⟨b,hb,rfl⟩:=had (by omega);simp only[hb] at hN;obtain⟨g1,g2,cells,T,g4,g5,g6,g7⟩:=hN;obtain⟨bs,hr,ho,hbs⟩:=Kr hds g7;have hl:=g7.length;have hrl:=hr.length;refine⟨_,_,cells.toList,bs,hu,by simp only[hl,hcl,List.length_cons,List.length_nil];omega,?_,ho,hbs,.inr ⟨_,rfl,row b _ cells T _ _ g4 (fun j x hx=>by simpa using hx)⟩⟩;simp only[RdLL];refine⟨bs,[],by simp,by omega,?_,rfl⟩
   rwa [List.take_of_length_le (by omega)]
  ·rename_i z xs o' cp hk;split at h;rotate_left
   ·split at h;rotate_left
    ·cases h
    rename_i hc;simp only[Option.some.injEq] at h;obtain⟨rfl,hle,rfl,rfl⟩:=hc;have hyl:ys.length=len:=by rw[←h];simp only[List.length_take,List.length_drop];omega
    by_cases hl0:len=0
    ·exact emp ad _ (by rw[hl0] at hu;exact hu) (List.eq_nil_of_length_eq_zero (by omega))
    ·obtain⟨b,hb,rfl⟩:=had (by omega);rw[hk] at hN;unfold zT at hN;simp only[hb] at hN;obtain⟨g1,g2,cells,T,g4,g5,g6,g7,bs,g8,g9,g10⟩:=hN;obtain⟨c1,c2,rfl,_,hr2⟩:=g8.split off;obtain⟨c3,c4,rfl,hr3,_⟩:=hr2.split len;rw[h] at hr3;have hfit:=hr3.fits;have hnl:((cells.toList.drop (off * z)).take (len * z)).length=len * z:=by
      rw[List.length_take];rw[hyl] at hfit;omega
     have hr5:RdLL false w.heap z ys ((cells.toList.drop (off * z)).take (len * z)) c3:=by
      refine qu (fun j hj=> ?_) hr3;rw[hyl] at hj;rw[List.getElem?_take,if_pos hj]
     refine⟨_,_,(cells.toList.drop (off * z)).take (len * z),c3,by rw[hyl];exact hu,by rw[hnl,hyl],hr5,(fun h=>by cases h),fun c hc=>g10 O c (by simp[hc]),.inr ⟨_,rfl,row b _ cells T _ _ g4 (fun j x hx=> ?_)⟩⟩;rw[List.getElem?_take] at hx;split at hx
     ·rw[List.getElem?_drop] at hx;rw[g6];simpa using hx
     ·cases hx
   rename_i hc;simp only[Option.some.injEq] at h;obtain⟨rfl,hle,hflat⟩:=hc;have hflat2:(ys.all fun e=>e.all D.flat)=true:=by
    rw[←h,List.all_eq_true];intro e he;exact List.all_eq_true.1 hflat e (List.mem_of_mem_drop<|List.mem_of_mem_take he)
   have hyl:ys.length=len:=by rw[←h];simp only[List.length_take,List.length_drop];omega
   by_cases hl0:len=0
   ·exact emp ad _ (by rw[hl0] at hu;exact hu) (List.eq_nil_of_length_eq_zero (by omega))
   ·obtain⟨b,hb,rfl⟩:=had (by omega);rw[hk] at hN;unfold zT at hN;simp only[hb] at hN;obtain⟨g1,g2,cells,T,g4,g5,g6,g7,bs,g8,g9,g10⟩:=hN;obtain⟨c1,c2,rfl,_,hr2⟩:=g8.split off;obtain⟨c3,c4,rfl,hr3,_⟩:=hr2.split len;rw[h] at hr3;obtain⟨rfl,hr4⟩:=RdLL.flat hflat2 hr3;have hfit:=hr4.fits;have hnl:((cells.toList.drop (off * z)).take (len * z)).length=len * z:=by
     rw[List.length_take];rw[hyl] at hfit;omega
    have hr5:RdLL true w.heap z ys ((cells.toList.drop (off * z)).take (len * z)) []:=by
     refine qu (fun j hj=> ?_) hr4;rw[hyl] at hj;rw[List.getElem?_take,if_pos hj]
    refine⟨_,_,(cells.toList.drop (off * z)).take (len * z),[],by rw[hyl];exact hu,by rw[hnl,hyl],?_,fun _=>rfl,by simp,.inr ⟨_,rfl,row b _ cells T _ _ g4 (fun j x hx=> ?_)⟩⟩
    ·cases own with
     |true=>exact hr5
     |false=>exact RdLL.weak _ _ _ _ hr5
    ·rw[List.getElem?_take] at hx;split at hx
     ·rw[List.getElem?_drop] at hx;rw[g6];simpa using hx
     ·cases hx
  ·cases h
  ·cases h
 ·rename_i z xs;obtain⟨ad,cap,hu,hr⟩:=Ky H;split at h
  ·rename_i hc;simp only[Option.some.injEq] at h;subst h;obtain⟨rfl,hc⟩:=hc;rcases hr with rfl|⟨b,off,cells,T,fz,bs,rfl,hh,hl,hcc,hr,hb,hbs⟩
   ·exact emp ad cap hu rfl
   have hfit:=hr.fits;simp only[List.length_drop,Array.length_toList] at hfit;have hnl:((cells.toList.drop off).take (xs.length * z)).length=xs.length * z:=by
    simp only[List.length_take,List.length_drop,Array.length_toList];omega
   have hr5:RdLL false w.heap z xs ((cells.toList.drop off).take (xs.length * z)) bs:=by
    refine qu (fun j hj=> ?_) hr;rw[List.getElem?_take,if_pos hj]
   have hcell:=row b off cells T fz ((cells.toList.drop off).take (xs.length * z)) hh (fun j x hx=>by
    rw[List.getElem?_take] at hx;split at hx
    ·rw[List.getElem?_drop] at hx;simpa using hx
    ·cases hx)
   cases own with
   |false=>exact⟨_,_,_,bs,hu,hnl,hr5,by simp,hbs,.inr ⟨_,rfl,hcell⟩⟩
   |true=>
    have hfl:(xs.all fun e=>e.all D.flat)=true:=by simpa using hc
    obtain⟨rfl,hr6⟩:=RdLL.flat hfl hr5;exact⟨_,_,_,[],hu,hnl,hr6,fun _=>rfl,by simp,.inr ⟨_,rfl,hcell⟩⟩
  ·split at h<;>simp only[Option.some.injEq,reduceCtorEq] at h;rename_i he;subst he;exact emp ad cap hu h.symm
 ·cases h
theorem zt.renew(R:zt cx m s a w){m':M}{w':World}{n:Nat}{k:Blk}(E:Ext [n] m w.heap m' w'.heap)(hn1:n < 1000000)
  (hroot:∀j b f,j≠n→m.inf j=some f→f.blk=some b→m'.own b=some j∧w'.heap[b]? =w.heap[b]?) (hinf:∀j,j≠n→m'.inf j=m.inf j)
  (hN:zT cx m' w'.heap n (some k) (m'.inf n)) (hown:(∀b j,m'.own b=some j→b < w'.heap.size)∧∀b,b < cx.w0.heap.size→¬cx.W b→m'.own b=cx.own0 b) (hF:Fr cx w'):zt cx m' ((s.er [n]).blk n k) a w' where
 size:=R.size
 defers:=R.defers
 sl t:=E.ver (R.sl t)
 hp j:=by
  by_cases hj:j=n
  ·subst hj;simp only[St.blk,if_true];exact hN
  ·have hnj:[n].contains j=false:=by simpa using hj
   simp only[St.blk,if_neg hj,St.er,hnj,Bool.false_eq_true,if_false];rw[hinf j hj];have H:=R.hp j;cases hi:m.inf j with
   |none=>
    rw[hi] at H;cases hs:s.hp j with
    |none=>trivial
    |some b=>rw[hs] at H;exact H.elim
   |some f=>
    rw[hi] at H;obtain⟨b,hb⟩:=zT.some_blk H;rw[hb] at H ⊢;exact E.n (by simp only[hnj,Bool.false_or,zI];simp;omega) (fun c hc=>hroot j c f hj hi hc) hi H
 own:=hown
 fr:=hF
 gh t:=E.ver (R.gh t)
theorem xH{P:Program}(t ty e:TypeId)(i:TypeInfo)(ht:P.underlying t=some (.slice e))(hi:P.info? e=some i)
  (g sLen sCap:Nat) (cur:Array Value) (T:TypeId) (hg:w.heap[g]? =some (.cells cur T (0,0)))
  (ad:Addr) (n c:Nat) (news:List Value) (hl:news.length=n * i.size) (hnews:∀(j:Nat) u,news[j]? =some u→w.cell? (ad.add j)=some u) (h1:∀u∈news,u.oneCell'=true)
  (hroom:sLen+n≤sCap) (hfit:sLen * i.size+news.length≤cur.size):
  (Builtin.append_ #[t,t] ty #[.slice (some ⟨g,0,none⟩) sLen sCap,.slice (some ad) n c]).run P w=
   .ok (.slice (some ⟨g,0,none⟩) (sLen+n) sCap) (w.setRow g (cur.toList.take (sLen * i.size)++news++cur.toList.drop (sLen * i.size+news.length)).toArray):=by
 have hf:=run_firstCells_some (P:=P) w i.size n ad n c news hl hnews;have hst:=run_storeCells_at P g (sLen * i.size) T news 0 cur w hg (by simpa using hfit) h1;simp only[Nat.add_zero] at hst;simp[Builtin.append_,run_underlying ht,sizeOf,typeInfo,hi,Builtin.lenOf,hroom,hf,Addr.add_lit,hst]
theorem ku{P:Program}(t ty e:TypeId)(i:TypeInfo)(ht:P.underlying t=some (.slice e))(hi:P.info? e=some i)
  (b ad:Option Addr) (sLen sCap c:Nat) (hroom:sLen≤sCap):
  (Builtin.append_ #[t,t] ty #[.slice b sLen sCap,.slice ad 0 c]).run P w= .ok (.slice b sLen sCap) w:=by
 have hf:(Builtin.firstCells i.size 0<|.slice ad 0 c).run P w= .ok #[] w:=by
  cases ad<;>simp[Builtin.firstCells,loadCells,loadCellsFrom]
 cases b<;>simp[Builtin.append_,run_underlying ht,sizeOf,typeInfo,hi,Builtin.lenOf,hroom,hf,storeCells]
theorem xJ{P:Program}(t ty e:TypeId)(i:TypeInfo)(z:Value)(ht:P.underlying t=some (.slice e))(hi:P.info? e=some i)(hz:i.zero=some z)
  (b:Option Addr) (sLen sCap:Nat) (olds:List Value) (hlo:olds.length=sLen * i.size) (holds:sLen=0∨∃ad,b=some ad∧∀(j:Nat) v,olds[j]? =some v→w.cell? (ad.add j)=some v)
  (ad:Addr) (n c:Nat) (news:List Value) (hl:news.length=n * i.size) (hnews:∀(j:Nat) v,news[j]? =some v→w.cell? (ad.add j)=some v)
  (hg:sCap < sLen+n) (h63:((sLen+n:Nat):Int)≤9223372036854775807) (hfit:Builtin.nextslicecap (sLen+n) sCap * i.bytes≤281474976710656):
  (Builtin.append_ #[t,t] ty #[.slice b sLen sCap,.slice (some ad) n c]).run P w=
   .ok (.slice (some ⟨w.heap.size,0,none⟩) (sLen+n)<|grownCap w (sLen+n) sCap e)
    (w.drew.alloc<|.cells (olds.toArray++news.toArray++Builtin.zeroCells z.cells (grownCap w (sLen+n) sCap e - (sLen+n))) e):=by
 have hn:¬(sLen+n≤sCap):=by omega
 have h63':¬(9223372036854775807 < ((sLen:Int)+(n:Int))):=by omega
 have h48':¬(281474976710656 < Builtin.nextslicecap (sLen+n) sCap * i.bytes):=by omega
 have hf:=run_firstCells_some (P:=P) w.drew i.size n ad n c news hl (by simpa using hnews);have hfo:(Builtin.firstCells i.size sLen<|.slice b sLen sCap).run P w.drew= .ok olds.toArray w.drew:=by
  rcases holds with rfl|⟨ad',rfl,hcell⟩
  ·have:olds=[]:=List.eq_nil_of_length_eq_zero (by simpa using hlo);subst this;cases b<;>simp[Builtin.firstCells,loadCells,loadCellsFrom]
  ·exact run_firstCells_some (P:=P) w.drew i.size sLen ad' sLen sCap olds hlo (by simpa using hcell)
 simp[Builtin.append_,run_underlying ht,sizeOf,typeInfo,zeroValue,hi,hz,Builtin.lenOf,hn,h63',h48',Question.forced,hf,hfo,newRow,grownCap];congr 2;apply Array.ext';simp[List.append_assoc]
end Go.AW
