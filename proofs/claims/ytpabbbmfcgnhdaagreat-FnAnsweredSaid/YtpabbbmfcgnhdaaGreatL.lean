/- That each further operation does in the model what the compact one says, part six: make and literals. Lemmas. Conditions: none. -/
import Derived.Test.YtpabbbmfcgnhdaaGreatK
import Derived.Laws.StructEq
set_option linter.unusedVariables false
namespace Go.AW
variable {cx:Cx} {m:M} {s:St} {a:Act} {w:World} {o:Oper} {K:Act→World→Prop} {Q:Exit→Act→World→Prop}
theorem xx{h:Hp}:∀{vs:List Value} {ds:List D},vs.mapM zaf=some ds→RdL true h ds vs []
 |[],ds,H=>by simp at H;subst H;simp[RdL]
 |v::vs,ds,H=>by
  simp only[List.mapM_cons,Option.pure_def,Option.bind_eq_bind,obi] at H;obtain⟨d,hd,ds',hds,he⟩:=H;cases he;have ih:=xx (h:=h) hds;simp only[RdL];unfold zaf at hd;split at hd<;>simp only[Option.some.injEq,reduceCtorEq] at hd<;>subst hd
  ·exact⟨_,vs,[],[],rfl,rfl,rfl,by simp[Rd],ih⟩
  ·exact⟨_,vs,[],[],rfl,rfl,rfl,by simp[Rd],ih⟩
  ·exact⟨_,vs,[],[],rfl,rfl,rfl,by simp[Rd],ih⟩
  ·exact⟨_,vs,[],[],rfl,rfl,rfl,by simp[Rd],ih⟩
theorem zbM{h:Hp}{zs:List D}{z:List Value}(hz:RdL true h zs z []):∀(n:Nat) (L:List Value),(∀i,i < n * zs.length→L[i]? =z[i % zs.length]?)→RdLL true h zs.length (List.replicate n zs) L []
 |0,L,_=>by simp[RdLL]
 |n+1,L,H=>by
  have hl:=hz.length;simp only[List.replicate_succ,RdLL];have e1:(n+1) * zs.length=zs.length+n * zs.length:=by rw[Nat.succ_mul,Nat.add_comm]
  refine⟨[],[],by simp,by simp,?_,zbM hz n _ (fun i hi=> ?_)⟩
  ·have:L.take zs.length=z:=by
    apply List.ext_getElem?;intro i;rw[List.getElem?_take];split
    ·rename_i hi;rw[H i (by omega),Nat.mod_eq_of_lt hi]
    ·rename_i hi;rw[List.getElem?_eq_none (by omega)]
   rwa [this]
  ·rw[List.getElem?_drop,H _ (by omega),Nat.add_mod_left]
def zkH:D→D→D
 | .sl _ [],.sl sz _=> .sl sz []
 |d,_=>d
def JG:List D→List D→List D
 |d::ds,z::zs=>zkH d z::JG ds zs
 |ds,_=>ds
theorem zjt{o:Bool}{h:Hp}{d z:D}{v:Value}{bs:List Nat}(H:Rd o h d v bs)(hb:bs=[]):Rd o h (zkH d z) v bs:=by
 unfold zkH;split
 ·simp only[Rd] at H ⊢;obtain⟨a,cap,e,H⟩:=H;rcases H with H|⟨b,off,cells,T,fz,bs',_,_,h3,_⟩
  ·exact⟨a,cap,e,.inl H⟩
  ·rw[hb] at h3;cases h3
 ·exact H
theorem ziF{d z:D}(h:d.isCell=true):(zkH d z).isCell=true:=by
 unfold zkH;split
 ·rfl
 ·exact h
theorem zaT{o:Bool}{h:Hp}:∀{ds zs:List D} {vs:List Value} {bs:List Nat},RdL o h ds vs bs→bs=[]→RdL o h (JG ds zs) vs bs
 |[],_,_,_,H,_=>by unfold JG;exact H
 |d::ds,[],_,_,H,_=>by unfold JG;exact H
 |d::ds,z::zs,vs,bs,H,hb=>by
  simp only[RdL] at H;obtain⟨v,vs',b1,b2,rfl,rfl,hc,h1,h2⟩:=H;obtain⟨e1,e2⟩:=List.append_eq_nil_iff.1 hb;simp only[JG,RdL];exact⟨v,vs',b1,b2,rfl,rfl,ziF hc,zjt h1 e1,zaT h2 e2⟩
theorem kG:∀(ds zs:List D),(JG ds zs).length=ds.length
 |[],_=>by unfold JG;rfl
 |_::_,[]=>by unfold JG;rfl
 |_::ds,_::zs=>by simp[JG,kG ds zs]
theorem zky(R:zt cx m s a w){d sz bytes:Nat}{zs:List D}{t e:TypeId}{i:TypeInfo}{z:Value}{x y:Operand}{x' y':Opd}(ho:o.op= .makeSlice t x y)(ht:cx.P.underlying t=some (.slice e))
  (hi:cx.P.info? e=some i) (hz:i.zero=some z) (hsz:i.size=sz) (hzs:∃zs0 fx,z.cells.toList.mapM zaf=some zs0∧zs=JG zs0 fx) (hzl:zs.length=sz) (h0:sz≠0) (hby:i.bytes=bytes) (hd:o.dst=some d) (hn:d < cx.n) (hx:zJ x=some x') (hy:zJ y=some y') {out:Out}
  (he:ev s (.mksl d sz bytes zs x' y')=some out) (hK:∀m' a' w',zt cx m' (s.app out) a' w'→K a' w'):o.wp cx.P a w K Q:=by
 subst hsz;subst hby
 have h1:=R.opd hx;have h2:=R.opd hy;simp only[ev] at he;split at he;rotate_left
 ·cases he
 rename_i hfree;simp only[obi] at he;obtain⟨n,hnn,k,hkk,he⟩:=he;split at he<;>simp only[Option.some.injEq,reduceCtorEq] at he;rename_i hc;obtain⟨rfl,hb1,hb2⟩:=hc;subst he;obtain⟨k1,e1⟩:=KE h1 hnn;obtain⟨k2,e2⟩:=KE h2 hkk;have hrun:=run_make (P:=cx.P) w t e i z ht hi hz k1 k2 (k:Int) (k:Int) (by omega) (Int.le_refl _) (by
  have:(i.bytes:Int) * (k:Int)≤65536 * 2147483648:=by
   have h3:i.bytes * k≤65536 * 2147483648:=Nat.mul_le_mul hb2 hb1;have h4:((i.bytes * k:Nat):Int)≤((65536 * 2147483648:Nat):Int):=by omega
   simpa using h4
  omega) (by unfold big at hb1;omega)
 simp only[Int.toNat_natCast] at hrun;obtain⟨zs0,fx,hzs,rfl⟩:=hzs;have hrl:=zaT (zs:=fx) (xx (h:=w.heap) hzs) rfl;generalize hzq:JG zs0 fx=zs at *;have hl:=hrl.length;simp only[Array.length_toList] at hl;refine zfT (k:= .data i.size (List.replicate k zs) (zs.all D.flat) none) (v:= .one (.sl (d * 64) 0 k)) (f:=⟨some w.heap.size,i.size,k⟩) (u:= .slice (some ⟨w.heap.size,0,none⟩) k k) (cells:=madeCells z.cells (k * i.size)) (T:=e) R hd hn hfree O (Nat.le_of_eq (size_madeCells _ _).symm) (fun E=>⟨rfl,by simp,[],?_,fun _=>⟨List.nodup_nil,by simp⟩,by simp⟩) ?_ ?_ hK
 ·have:=zbM (RdL.congr (h':=(w.alloc<|.cells (madeCells z.cells (k * i.size)) e).heap) _ _ [] (by simp) hrl) k (madeCells z.cells (k * i.size)).toList (fun j hj=>by
   have hzp:0 < zs.length:=by omega
   have hmod:=Nat.mod_lt j hzp;rw[hzl] at hj hmod ⊢;have hzsz:z.cells.size=i.size:=by omega
   simp only[madeCells,Array.toList_map,List.getElem?_map,Array.toList_range,List.getElem?_range hj,Option.map_some,hzsz];rw[getElem!_pos z.cells (j % i.size) (by omega)];simp[hzsz,hmod])
  rw[hzl] at this;cases hq:zs.all D.flat with
  |true=>exact this
  |false=>exact RdLL.weak _ _ _ _ this
 ·exact⟨rfl,⟨some w.heap.size,i.size,k⟩,by simp[M.plus],by simp,some ⟨w.heap.size,0,none⟩,by simp,fun _=>⟨w.heap.size,rfl,by simp⟩⟩
 ·simp only[execOp,ho,e1,e2,Sem.run_bind,hrun,Result.andThen_ok];rfl
theorem zbH:∀(vs:List Value) (k off:Nat) (cells:Array Value),off+k+vs.length≤cells.size→
  ((vs.zipIdx k).foldl (fun cs (c:Value×Nat)=>cs.setIfInBounds (off+c.2) c.1) cells).toList=splice cells.toList (off+k) vs
 |[],k,off,cells,_=>by simp[splice]
 |v::vs,k,off,cells,h=>by
  simp only[List.zipIdx_cons,List.foldl_cons];rw[zbH vs (k+1) off _ (by simp at h ⊢;omega)];have e:=list_seg_step cells.toList (off+k) v vs (by simp at h ⊢;omega);simp only[splice,Array.toList_setIfInBounds,List.length_cons];simpa[Nat.add_assoc,Nat.add_comm,Nat.add_left_comm] using e
theorem zl.splice{h:Hp}{cs ds:List C}{us vs:List Value}(i:Nat)(H:zl (qE m h) cs us)(K:zl (qE m h) ds vs):zl (qE m h) (AW.splice cs i ds) (AW.splice us i vs):=by
 have hl:=K.length;unfold AW.splice;rw[hl];exact zl.append (zl.append (zl.take i H) K) (zl.drop _ H)
theorem zbW{h:Hp}{place:Nat→Option (Nat×Nat)}:∀{ps:List (Nat×Value)} {qs:List (Nat×Nat×V)} {cs cs':List C} {cells:Array Value},
  zl (fun(q:Nat×Nat×V) (p:Nat×Value)=>place p.1=some (q.1,q.2.1)∧qK m h q.2.2 p.2) qs ps→zl (qE m h) cs cells.toList→za8 cs qs=some cs'→
  ∃cells',Instr.fill place cells ps=some cells'∧zl (qE m h) cs' cells'.toList∧cells'.size=cells.size
 |[],[],cs,cs',cells,_,H,hf=>by simp[za8] at hf;subst hf;exact⟨cells,by simp[Instr.fill],H,rfl⟩
 |(i,v)::ps,(off,n,x)::qs,cs,cs',cells,hq,H,hf=>by
  obtain⟨⟨hp,hv⟩,hq⟩:=hq;simp only[za8,obi] at hf;obtain⟨ds,hds,hf⟩:=hf;split at hf;rotate_left
  ·cases hf
  rename_i hc;have hrel:=hv.cells hds;have hl:=hrel.length;have hcl:=H.length;simp only[Array.length_toList] at hl hcl;have hsp:=zbH v.cells.toList 0 off cells (by simp;omega);simp only[Nat.add_zero] at hsp;have hfold:(v.cells.zipIdx.foldl (fun cs (c:Value×Nat)=>cs.setIfInBounds (off+c.2) c.1) cells).toList=AW.splice cells.toList off v.cells.toList:=by
   rw[←hsp,←Array.foldl_toList];simp
  have hsz:(v.cells.zipIdx.foldl (fun cs (c:Value×Nat)=>cs.setIfInBounds (off+c.2) c.1) cells).size=cells.size:=by
   rw[←Array.length_toList,hfold,xR (by simp;omega)];simp
  obtain⟨cells',h1,h2,h3⟩:=zbW (cells:=v.cells.zipIdx.foldl (fun cs (c:Value×Nat)=>cs.setIfInBounds (off+c.2) c.1) cells) hq (by rw[hfold];exact zl.splice off H hrel) hf;refine⟨cells',?_,h2,h3.trans hsz⟩;simp only at hp;unfold Instr.fill;simp only[hp];rw[if_neg (by simp;omega)];exact h1
 |[],_::_,_,_,_,hq,_,_=>hq.elim
 |_::_,[],_,_,_,hq,_,_=>hq.elim
def xT(f:Nat→Option (Nat×Nat)):List (Nat×Operand)→Option (List (Nat×Nat×Opd))
 |[]=>some []
 |(i,x)::r=>(f i).bind fun p=>(zJ x).bind fun y=>(xT f r).map fun q=>(p.1,p.2,y)::q
theorem Xw(R:zt cx m s a w){f:Nat→Option (Nat×Nat)}:∀{ps:List (Nat×Operand)} {qs:List (Nat×Nat×Opd)},xT f ps=some qs→
  zl (fun(q:Nat×Nat×V) (p:Nat×Value)=>f p.1=some (q.1,q.2.1)∧qK m w.heap q.2.2 p.2) (qs.map fun p=>(p.1,p.2.1,s.ev p.2.2)) (ps.map fun p=>(p.1,a.eval p.2))
 |[],qs,h=>by simp[xT] at h;subst h;trivial
 |(i,x)::ps,qs,h=>by
  simp only[xT,obi,omi] at h;obtain⟨p,hp,y,hy,q,hq,rfl⟩:=h;exact⟨⟨hp,R.opd hy⟩,Xw R hq⟩
def YC(P:Program)(fs:Array Field)(i:Nat):Option (Nat×Nat):=fs[i]?.bind fun f=>(szP P f.type).map fun n=>(f.offset,n)
theorem zbm{P:Program}{w:World}:∀(fs:List Field),(∀f∈fs,(szP P f.type).isSome)→((fs.mapM fun f=>do pure (f.offset,←sizeOf f.type):Sem (List (Nat×Nat)))).run P w= .ok (fs.map fun f=>(f.offset,(szP P f.type).getD 0)) w
 |[],_=>by simp
 |f::fs,h=>by
  obtain⟨n,hn⟩:=Option.isSome_iff_exists.1 (h f (by simp));have hn':=hn;simp only[szP,omi] at hn;obtain⟨i,hi,hin⟩:=hn;have ih:=zbm (w:=w) fs (fun g hg=>h g (by simp[hg]));simp only[List.mapM_cons,Sem.run_bind,qt hi,Result.andThen_ok,Sem.run_pure,ih,List.map_cons,hn',Option.getD_some,hin]
theorem ziN(R:zt cx m s a w){d:Nat}{zs:List C}{t:TypeId}{fs:Array Field}{ps:Array (Nat×Operand)}{qs:List (Nat×Nat×Opd)}(ho:o.op= .build t ps)(ht:cx.P.underlying t=some (.struct fs))(hz:KP cx.P t=some zs)
  (hall:fs.toList.all (fun f=>(szP cx.P f.type).isSome)=true) (hps:xT (YC cx.P fs) ps.toList=some qs) (hd:o.dst=some d) (hn:d < cx.n) {out:Out}
  (he:ev s (.build d zs qs)=some out) (hK:∀m' a' w',zt cx m' (s.app out) a' w'→K a' w'):o.wp cx.P a w K Q:=by
 simp only[ev,omi] at he;obtain⟨cs,hcs,rfl⟩:=he;simp only[KP,obi] at hz;obtain⟨i,hi,z,hiz,hz⟩:=hz;have hzr:zl (qE m w.heap) zs z.cells.toList:=XV (fun _ _=>xo) hz;obtain⟨cells',h1,h2,h3⟩:=zbW (Xw R hps) hzr hcs;have hpl:(fun i=>(fs.toList.map fun f=>(f.offset,(szP cx.P f.type).getD 0)).toArray[i]?)=YC cx.P fs:=by
  funext j;simp only[YC,List.getElem?_toArray,List.getElem?_map,Array.getElem?_toList];cases hf:fs[j]? with
  |none=>rfl
  |some f=>
   have:(szP cx.P f.type).isSome=true:=List.all_eq_true.1 hall f (by simpa using Array.mem_of_getElem? hf);obtain⟨n,hn⟩:=Option.isSome_iff_exists.1 this;simp[hn]
 refine qC R hd hn (v:= .agg cs) (u:= .agg cells') ⟨_,rfl,h2⟩ ?_ hK;have hplaces:((fs.mapM fun f=>do pure (f.offset,←sizeOf f.type):Sem (Array (Nat×Nat)))).run cx.P w= .ok (fs.toList.map fun f=>(f.offset,(szP cx.P f.type).getD 0)).toArray w:=by
  rw[Array.mapM_eq_mapM_toList];have:=zbm (P:=cx.P) (w:=w) fs.toList (fun f hf=>List.all_eq_true.1 hall f hf);show(Sem.bind (fs.toList.mapM fun f=>do pure (f.offset,←sizeOf f.type)) fun l=>Sem.pure l.toArray).run cx.P w=_;rw[show ∀(x:Sem (List (Nat×Nat))) (k:List (Nat×Nat)→Sem (Array (Nat×Nat))),Sem.bind x k=x >>= k from fun _ _=>rfl,Sem.run_bind,this];rfl
 simp only[execOp,ho,Instr.build,Sem.run_bind,JU hi hiz,zp ht,Result.andThen_ok,hplaces];simp only[Array.toList_map,hpl,h1];rfl
theorem zeS{h:Hp}{zs:List C}{z:List Value}(hz:zl (qE m h) zs z):∀(n:Nat) (L:List Value),L.length=n * zs.length→(∀i,i < n * zs.length→L[i]? =z[i % zs.length]?)→zl (qE m h) (List.replicate n zs).flatten L
 |0,L,hl,_=>by
  have:L=[]:=List.eq_nil_of_length_eq_zero (by simpa using hl);subst this;simp[zl]
 |n+1,L,hl,H=>by
  have hzl:=hz.length;have e1:(n+1) * zs.length=zs.length+n * zs.length:=by rw[Nat.succ_mul,Nat.add_comm]
  rw[List.replicate_succ,List.flatten_cons,←List.take_append_drop zs.length L];refine zl.append ?_ (zeS hz n _ (by rw[List.length_drop];omega) (fun i hi=> ?_))
  ·have:L.take zs.length=z:=by
    apply List.ext_getElem?;intro i;rw[List.getElem?_take];split
    ·rename_i hi;rw[H i (by omega),Nat.mod_eq_of_lt hi]
    ·rename_i hi;rw[List.getElem?_eq_none (by omega)]
   rwa [this]
  ·rw[List.getElem?_drop,H _ (by omega),Nat.add_mod_left]
theorem zt.garbage(R:zt cx m s a w)(ob:Obj):zt cx m s a (w.alloc ob):=by
 have E:Ext [] m w.heap m (w.alloc ob).heap:=⟨fun _ _ _ h=>h,fun _ _ _ _ h ho=>⟨ho,Z8 h⟩,fun _ _ _ _ _ _ h _ _ ho _=>⟨ho,Z8 h⟩⟩;exact⟨R.size,R.defers,fun t=>E.ver0 (R.sl t),fun j=>zT.ext E (fun b hb x hx=>⟨hb,Z8 hx⟩) O (R.hp j),⟨fun b j hb=>by rw[kY];have:=R.own.1 b j hb;omega,R.own.2⟩,R.fr.alloc _,fun t=>E.ver0 (R.gh t)⟩
theorem zcN(R:zt cx m s a w){d sz len:Nat}{zs:List C}{t e:TypeId}{ps:Array (Nat×Operand)}{qs:List (Nat×Nat×Opd)}(ho:o.op= .buildSlice t len ps)(ht:cx.P.underlying t=some (.slice e))(hsz:szP cx.P e=some sz)(h0:0 < sz)(hbig:len * sz≤1024)(hz:KP cx.P e=some zs)(hzl:zs.length=sz)
  (hps:xT (fun i=>some (i * sz,sz)) ps.toList=some qs) (hd:o.dst=some d) (hn:d < cx.n) {out:Out}
  (he:ev s (.bslice d sz (List.replicate len zs).flatten qs)=some out) (hK:∀(m':M) (a':Act) (w':World),zt cx m' (s.app out) a' w'→(∀(j:Nat) (g:NI),m.inf j=some g→m'.inf j=some g)→(∀(b:Nat) (x:Obj),w.heap[b]? =some x→w'.heap[b]? =w.heap[b]?)→K a' w'):o.wp cx.P a w K Q:=by
 simp only[szP,omi] at hsz;obtain⟨i',hi',hin⟩:=hsz;simp only[KP,obi] at hz;obtain⟨i,hi,z,hiz,hz⟩:=hz;rw[hi'] at hi;cases hi;have hzr:zl (qE m w.heap) zs z.cells.toList:=XV (fun _ _=>xo) hz;have hzl2:=hzr.length;simp only[Array.length_toList] at hzl2;simp only[ev] at he;split at he;rotate_left
 ·cases he
 rename_i hfree;simp only[omi] at he;obtain⟨cs,hcs,he⟩:=he;have hzero:∃Z:Array Value,(len * i'.size=0→Z=#[])∧(len * i'.size≠0→Z=z.cells)∧zl (qE m w.heap) (List.replicate len zs).flatten ((Array.range (len * i'.size)).map (Z[· % Z.size]!)).toList:=by
  by_cases hl0:len=0
  ·subst hl0;exact⟨#[],by simp,by simp,by simp[zl]⟩
  ·have hne:¬(len * i'.size=0):=by rw[hin];exact Nat.mul_ne_zero hl0 (by omega)
   refine⟨z.cells,fun h=>absurd h hne,fun _=>rfl,?_⟩;refine zeS hzr len _ (by simp[hin,hzl]) (fun j hj=> ?_);rw[hzl] at hj ⊢;have hmod:=Nat.mod_lt j h0;have hzsz:z.cells.size=sz:=by omega
   simp only[Array.toList_map,List.getElem?_map,Array.toList_range,hin,List.getElem?_range hj,Option.map_some,hzsz];rw[getElem!_pos z.cells (j % sz) (by omega)];simp[hzsz,hmod]
 obtain⟨Z,hZ0,hZ1,hZr⟩:=hzero;obtain⟨cells',h1,h2,h3⟩:=zbW (Xw R hps) hZr hcs;have hcl:=h2.length;simp only[Array.length_toList] at hcl;have hsz':cells'.size=len * sz:=by rw[h3];simp[hin]
 have hrun:(execOp a.eval o).run cx.P w= .ok (.value<|.slice (some ⟨w.heap.size,0,none⟩) len len) (w.alloc<|.cells cells' e):=by
  have hb:¬(len * i'.size > 2 ^ 24):=by rw[hin];omega
  rw[hin] at h1;by_cases hl0:len * i'.size=0
  ·rw[hZ0 hl0] at h1;rw[hin] at hl0;rw[hl0] at h1;simp only[execOp,ho,Instr.buildSlice,Sem.run_bind,zp ht,qt hi',Result.andThen_ok,hb,if_false];simp only[hin,hl0,if_true,Sem.run_bind,Sem.run_pure,Result.andThen_ok,Array.toList_map,h1];simp[newRow,newObj];rfl
  ·rw[hZ1 hl0] at h1;simp only[execOp,ho,Instr.buildSlice,Sem.run_bind,zp ht,qt hi',Result.andThen_ok,hb,if_false];simp only[hl0,if_false,Sem.run_bind,Sem.run_pure,Result.andThen_ok,JU hi' hiz];simp only[hin,Array.toList_map,h1];simp[newRow,newObj];rfl
 by_cases hl0:cs=[]
 ·rw[if_pos hl0] at he;subst he;have hl:len=0:=by
   rw[hl0,List.length_nil,hsz'] at hcl;rcases Nat.mul_eq_zero.1 hcl with h|h
   ·exact h
   ·omega
  subst hl;refine js hrun (hK m _ _ ?_ (fun _ _ h=>h) (fun _ _ h=>Z8 h));rw[hd];exact(R.garbage _).set hn (v:= .one .zs) ⟨rfl,_,rfl⟩
 ·rw[if_neg hl0] at he;subst he;have hlen:cs.length / sz=len:=by rw[←hcl,hsz'];exact Nat.mul_div_cancel _ h0
  refine zg1 (k:= .vars sz cs) (v:= .one (.sl (d * 64) 0 (cs.length / sz))) (f:=⟨some w.heap.size,sz,len⟩) (u:= .slice (some ⟨w.heap.size,0,none⟩) len len) (cells:=cells') (T:=e) R hd hn hfree O (Nat.le_of_eq hsz'.symm) (fun E=>⟨rfl,zl.mono (fun c _ v=>E.c (QC c)) h2⟩) ?_ hrun hK;rw[hlen];exact⟨rfl,⟨some w.heap.size,sz,len⟩,by simp[M.plus],by simp,some ⟨w.heap.size,0,none⟩,by simp,fun _=>⟨w.heap.size,rfl,by simp⟩⟩
theorem zhG(R:zt cx m s a w){d sz len:Nat}{zs:List C}{t e:TypeId}{ps:Array (Nat×Operand)}{qs:List (Nat×Nat×Opd)}(ho:o.op= .buildSlice t len ps)(ht:cx.P.underlying t=some (.slice e))(hsz:szP cx.P e=some sz)(h0:0 < sz)(hbig:len * sz≤1024)(hz:KP cx.P e=some zs)(hzl:zs.length=sz)
  (hps:xT (fun i=>some (i * sz,sz)) ps.toList=some qs) (hd:o.dst=some d) (hn:d < cx.n) {out:Out}
  (he:ev s (.bslice d sz (List.replicate len zs).flatten qs)=some out) (hK:∀m' a' w',zt cx m' (s.app out) a' w'→K a' w'):o.wp cx.P a w K Q:=
 zcN R ho ht hsz h0 hbig hz hzl hps hd hn he fun m' a' w' R' _ _=>hK m' a' w' R'
theorem zgq(R:zt cx m s a w){d len:Nat}{t e:TypeId}{ps:Array (Nat×Operand)}(ho:o.op= .buildSlice t len ps)(ht:cx.P.underlying t=some (.slice e)){sz:Nat}(hsz:szP cx.P e=some sz)(hl:len=0)(hp:ps.size=0)
  (hd:o.dst=some d) (hn:d < cx.n) {out:Out} (he:ev s (.pick d (.c<|.one<|.d<|.bool true) (.c<|.one .zs)<|.c<|.one .zs)=some out) (hK:∀m' a' w',zt cx m' (s.app out) a' w'→K a' w'):o.wp cx.P a w K Q:=by
 subst hl;have hps:ps=#[]:=Array.eq_empty_of_size_eq_zero hp;subst hps;simp only[ev,St.ev,Option.some.injEq] at he;subst he;simp only[szP,omi] at hsz;obtain⟨i',hi',hin⟩:=hsz;have hrun:(execOp a.eval o).run cx.P w= .ok (.value<|.slice (some ⟨w.heap.size,0,none⟩) 0 0) (w.alloc<|.cells #[] e):=by
  have hz:Array.map (fun _:Nat=>(default:Value)) (Array.range 0)=#[]:=by simp
  simp only[execOp,ho,Instr.buildSlice,Sem.run_bind,zp ht,qt hi',Result.andThen_ok];simp[newRow,newObj,Instr.fill];rw[hz];rfl
 simp only[if_true] at hK;refine js hrun (hK m _ _ ?_);rw[hd];exact(R.garbage _).set hn (v:= .one .zs) ⟨rfl,_,rfl⟩
theorem ziD(P:Program)(w:World)(t e:TypeId)(ad:Option Addr)(l c:Nat)(h:P.underlying t=some (.slice e)):(Op.equal t (.slice ad l c)<|.slice none 0 0).run P w= .ok ad.isNone w:=by
 show(Op.equalIn (9999+1) t (.slice ad l c)<|.slice none 0 0).run P w=_;rw[Op.equalIn,Sem.run_bind,zp h];cases ad<;>rfl
theorem ze3(R:zt cx m s a w){d:Nat}{op:BinOp}{neg:Bool}{t u e:TypeId}{x:Operand}{x':Opd}(ho:o.op= .binOp op t x (.const<|.slice none 0 0) u)(hop:op=if neg then .neq else .eql)(ht:cx.P.underlying t=some (.slice e))(hd:o.dst=some d)(hn:d < cx.n)(hx:zJ x=some x'){out:Out}
  (he:ev s (.isnil d neg x')=some out) (hK:∀m' a' w',zt cx m' (s.app out) a' w'→K a' w'):o.wp cx.P a w K Q:=by
 have h1:=R.opd hx;have fin:∀(ad:Option Addr) (l c:Nat) (v:V),a.eval x= .slice ad l c→qK m w.heap v (.bool (if neg then !ad.isNone else ad.isNone))→out=⟨[],some (d,v),[]⟩→o.wp cx.P a w K Q:=by
  intro ad l c v hu hv ho';subst ho';refine qC R hd hn hv ?_ hK;have hg:∀x y,(eqGuard op t x y (.slice ad l c)<|.slice none 0 0).run cx.P w= .ok () w:=by
   intro x y;unfold eqGuard;cases op<;>rfl
  have hy:a.eval (.const<|.slice none 0 0)= .slice none 0 0:=rfl;have hq:=ziD cx.P w t e ad l c ht;cases neg<;>simp only[Bool.false_eq_true,if_true,if_false] at hop ⊢<;>subst hop<;>
   simp only[execOp,ho,hu,hy,Sem.run_bind,hg,Result.andThen_ok,binOp,hq]<;>rfl
 have anyb:∀b,qK m w.heap (.one .anyb) (.bool b):=fun b=>⟨rfl,b,rfl⟩;simp only[ev] at he;split at he
 ·rename_i hp;rw[hp] at h1;obtain⟨_,ad,hu⟩:=h1;simp only[Option.some.injEq] at he;exact fin ad 0 0 _ hu (anyb _) he.symm
 ·rename_i n off len hp;rw[hp] at h1;obtain⟨f,hf,hcap,ad,hu,had⟩:=ye h1;simp only[Option.some.injEq] at he;refine fin ad _ _ _ hu ?_ he.symm;split
  ·exact anyb _
  ·rename_i hl;obtain⟨b,_,rfl⟩:=had (by omega);cases neg<;>exact yG _
 ·rename_i z xs hp;rw[hp] at h1;obtain⟨ad,cap,hu,hr⟩:=Ky h1;simp only[Option.some.injEq] at he;refine fin ad _ _ _ hu ?_ he.symm;split
  ·exact anyb _
  ·rename_i hl;rcases hr with rfl|⟨b,off,cells,T,fz,bs,rfl,_⟩
   ·exact absurd O hl
   ·cases neg<;>exact yG _
 ·cases he
def zfZ(P:Program):List Field→Nat→Bool
 |[],_=>true
 |f::fs,off=>decide (f.offset=off)&&decide (f.name≠ "_")&&(match P.underlying f.type with|some (.int _)=>true|_=>false)&&zfZ P fs (off+1)
theorem zaS{P:Program}{w:World}{t:TypeId}{xs:Array Value}{off:Nat}{v:Value}{td:TypeDesc}(ht:P.underlying t=some td)(hA:KI td=false)(hv:xs[off]? =some v):(part t xs off).run P w= .ok v w:=by
 simp only[part,Sem.run_bind,QB ht,hA,Result.andThen_ok,Bool.false_eq_true,if_false,hv,Sem.run_pure]
theorem zbd{P:Program}{w:World}{h:Hp}(d:Nat):∀{fs:List Field} {off:Nat} {cs ds:List C} {xs ys:Array Value} {b:Bool},zfZ P fs off=true→zl (qE m h) cs (xs.toList.drop off)→zl (qE m h) ds (ys.toList.drop off)→
  cs.length=fs.length→xc cs ds=some b→(Op.eqFields (d+1) xs ys fs).run P w= .ok b w
 |[],off,cs,ds,xs,ys,b,_,H,K,hl,he=>by
  have:cs=[]:=List.eq_nil_of_length_eq_zero (by simpa using hl);subst this;cases ds with
  |nil=>simp only[xc,Option.some.injEq] at he;subst he;rfl
  |cons e ds=>simp[xc] at he
 |f::fs,off,[],ds,xs,ys,b,_,H,K,hl,he=>by simp at hl
 |f::fs,off,c::cs,[],xs,ys,b,_,H,K,hl,he=>by
  unfold xc at he;split at he<;>first|(cases he;done)|(rename_i e _;cases e;done)|(simp_all;done)
 |f::fs,off,c::cs,e::ds,xs,ys,b,hf,H,K,hl,he=>by
  simp only[zfZ,Bool.and_eq_true,decide_eq_true_eq] at hf;obtain⟨⟨⟨hoff,hname⟩,hty⟩,hf⟩:=hf;subst hoff;obtain⟨u,hu,hcu⟩:=H.at (i:=0) (a:=c) rfl;obtain⟨v,hv,hcv⟩:=K.at (i:=0) (a:=e) rfl;have hu':xs[f.offset]? =some u:=by simpa using hu
  have hv':ys[f.offset]? =some v:=by simpa using hv
  have Hd:zl (qE m h) cs (xs.toList.drop (f.offset+1)):=by
   have:=zl.drop 1 H
   rwa [List.drop_drop] at this
  have Kd:zl (qE m h) ds (ys.toList.drop (f.offset+1)):=by
   have:=zl.drop 1 K
   rwa [List.drop_drop] at this
  have hnm:¬f.name= "_" :=hname;have fin:∀(q r:Bool) (td:TypeDesc),P.underlying f.type=some td→KI td=false→(Op.equalIn (d+1) f.type u v).run P w= .ok q w→xc cs ds=some r→b=(q&&r)→(Op.eqFields (d+1) xs ys (f::fs)).run P w= .ok b w:=by
   intro q r td htd hA hq hr hb;have ih:=zbd (P:=P) (w:=w) (h:=h) d hf Hd Kd (by simpa using hl) hr;simp only[Op.eqFields,Sem.run_bind,Sem.run_ite,ne_eq,hnm,not_false_eq_true,if_true,zaS htd hA hu',zaS htd hA hv',Result.andThen_ok,hq];cases q with
   |true=>simp only[Bool.not_true,Bool.false_eq_true,if_false];rw[ih,hb];rfl
   |false=>simp only[Bool.not_false,if_true,Sem.run_pure];rw[hb];rfl
  unfold xc at he;split at he
  ·rename_i heq _;cases heq
  ·rename_i k a cs' k' a' ds' e1 e2;cases e1;cases e2;split at he
   ·rename_i hk;subst hk;rw[omi] at he;obtain⟨r,hr,rfl⟩:=he;have h1:u= .int k a:=by obtain⟨_,bs,q,_⟩:=hcu;simp only[Rd] at q;exact q.1
    have h2:v= .int k a':=by obtain⟨_,bs,q,_⟩:=hcv;simp only[Rd] at q;exact q.1
    subst h1;subst h2;split at hty
    ·rename_i k0 hk0;refine fin (a == a') r _ hk0 O ?_ hr (by congr 1);rw[Op.equalIn,Sem.run_bind,zp hk0];simp
    ·cases hty
   ·cases he
  ·cases he
def zbs(P:Program):List Field→Nat→Bool
 |[],_=>true
 |f::fs,off=>decide (f.offset=off)&&decide (f.name≠ "_")&&(match P.underlying f.type with
   |some (.int _)=>zbs P fs (off+1)
   |some (.struct gs)=>zfZ P gs.toList 0&&!P.stoodInHeld f.type&&(szP P f.type == some gs.size)&&zbs P fs (off+gs.size)
   |_=>false)
def YJ(P:Program):List Field→Nat
 |[]=>0
 |f::fs=>(match P.underlying f.type with|some (.struct gs)=>gs.size|_=>1)+YJ P fs
theorem zel:∀{c1 d1 c2 d2:List C} {b:Bool},c1.length=d1.length→xc (c1++c2) (d1++d2)=some b→∃q r,xc c1 d1=some q∧xc c2 d2=some r∧b=(q&&r)
 |[],[],c2,d2,b,_,h=>⟨true,b,rfl,h,by simp⟩
 |c::c1,d::d1,c2,d2,b,hl,h=>by
  simp only[List.cons_append] at h;unfold xc at h;split at h
  ·rename_i heq _;cases heq
  ·rename_i k a cs' k' a' ds' e1 e2;cases e1;cases e2;split at h
   ·rename_i hk;subst hk;rw[omi] at h;obtain⟨r,hr,rfl⟩:=h;obtain⟨q,r',h1,h2,rfl⟩:=zel (c1:=c1) (d1:=d1) (by simpa using hl) hr;refine⟨decide (a=a')&&q,r',?_,h2,by rw[Bool.and_assoc]⟩;unfold xc;rw[if_pos rfl,h1];rfl
   ·cases h
  ·cases h
 |[],_::_,_,_,_,hl,_=>by cases hl
 |_::_,[],_,_,_,hl,_=>by cases hl
theorem zgV:∀{cs ds:List C} {b:Bool},xc cs ds=some b→cs.length=ds.length
 |[],[],_,_=>rfl
 |[],d::ds,b,h=>by simp[xc] at h
 |c::cs,[],b,h=>by
  unfold xc at h;split at h<;>first|(cases h;done)|(rename_i e _;cases e;done)|(simp_all;done)
 |c::cs,d::ds,b,h=>by
  unfold xc at h;split at h
  ·rename_i heq _;cases heq
  ·rename_i k a cs' k' a' ds' e1 e2;cases e1;cases e2;split at h
   ·rw[omi] at h;obtain⟨r,hr,rfl⟩:=h;simp[zgV hr]
   ·cases h
  ·cases h
theorem zfk{P:Program}{w:World}{t:TypeId}{xs:Array Value}{off n:Nat}{td:TypeDesc}(ht:P.underlying t=some td)(hA:KI td=true)(hs:szP P t=some n):(part t xs off).run P w= .ok (.agg<|xs.extract off (off+n)) w:=by
 simp only[szP,omi] at hs;obtain⟨i,hi,hin⟩:=hs;simp only[part,Sem.run_bind,QB ht,hA,Result.andThen_ok,if_true,qt hi,hin,Sem.run_pure]
theorem zbS{P:Program}{w:World}{h:Hp}(d:Nat):∀{fs:List Field} {off:Nat} {cs ds:List C} {xs ys:Array Value} {b:Bool},zbs P fs off=true→zl (qE m h) cs (xs.toList.drop off)→zl (qE m h) ds (ys.toList.drop off)→
  cs.length=YJ P fs→xc cs ds=some b→(Op.eqFields (d+2) xs ys fs).run P w= .ok b w
 |[],off,cs,ds,xs,ys,b,_,H,K,hl,he=>by
  have:cs=[]:=List.eq_nil_of_length_eq_zero (by simpa[YJ] using hl);subst this;cases ds with
  |nil=>simp only[xc,Option.some.injEq] at he;subst he;rfl
  |cons e ds=>simp[xc] at he
 |f::fs,off,cs,ds,xs,ys,b,hf,H,K,hl,he=>by
  simp only[zbs,Bool.and_eq_true,decide_eq_true_eq] at hf;obtain⟨⟨hoff,hname⟩,hf⟩:=hf;subst hoff;have hnm:¬f.name= "_" :=hname;have hlen:=zgV he;have main:∀(n:Nat) (u v:Value),(part f.type xs f.offset).run P w= .ok u w→(part f.type ys f.offset).run P w= .ok v w→n≤cs.length→zbs P fs (f.offset+n)=true→(cs.drop n).length=YJ P fs→
    (∀q,xc (cs.take n) (ds.take n)=some q→(Op.equalIn (d+2) f.type u v).run P w= .ok q w)→(Op.eqFields (d+2) xs ys (f::fs)).run P w= .ok b w:=by
   intro n u v hu hv hn hff hll hq;have e1:xc (cs.take n++cs.drop n) (ds.take n++ds.drop n)=some b:=by rw[List.take_append_drop,List.take_append_drop];exact he
   obtain⟨q,r,h1,h2,rfl⟩:=zel (by simp;omega) e1;have Hd:zl (qE m h) (cs.drop n) (xs.toList.drop (f.offset+n)):=by
    have:=zl.drop n H
    rwa [List.drop_drop] at this
   have Kd:zl (qE m h) (ds.drop n) (ys.toList.drop (f.offset+n)):=by
    have:=zl.drop n K
    rwa [List.drop_drop] at this
   have ih:=zbS (P:=P) (w:=w) (h:=h) d hff Hd Kd hll h2;simp only[Op.eqFields,Sem.run_bind,Sem.run_ite,ne_eq,hnm,not_false_eq_true,if_true,hu,hv,Result.andThen_ok,hq q h1];cases q with
   |true=>simp only[Bool.not_true,Bool.false_eq_true,if_false];rw[ih];rfl
   |false=>simp only[Bool.not_false,if_true,Sem.run_pure];rfl
  split at hf
  ·rename_i k0 hk0;have hl1:cs.length=1+YJ P fs:=by rw[hl];simp only[YJ,hk0]
   cases cs with
   |nil=>simp at hl1;omega
   |cons c cs=>
   cases ds with
   |nil=>simp at hlen
   |cons e ds=>
   obtain⟨u,hu,hcu⟩:=H.at (i:=0) (a:=c) rfl;obtain⟨v,hv,hcv⟩:=K.at (i:=0) (a:=e) rfl;have hu':xs[f.offset]? =some u:=by simpa using hu
   have hv':ys[f.offset]? =some v:=by simpa using hv
   refine main 1 u v (zaS hk0 O hu') (zaS hk0 O hv') (by simp) hf (by simp at hl1 ⊢;omega) fun q hq=> ?_;simp only[List.take_succ_cons,List.take_zero] at hq;unfold xc at hq;split at hq
   ·rename_i heq _;cases heq
   ·rename_i k a cs' k' a' ds' e1 e2;cases e1;cases e2;split at hq
    ·rename_i hk;subst hk;simp only[xc,Option.map_some,Option.some.injEq] at hq;subst hq;have h1:u= .int k a:=by obtain⟨_,bs,q,_⟩:=hcu;simp only[Rd] at q;exact q.1
     have h2:v= .int k a':=by obtain⟨_,bs,q,_⟩:=hcv;simp only[Rd] at q;exact q.1
     subst h1;subst h2;rw[Op.equalIn,Sem.run_bind,zp hk0];simp;rfl
    ·cases hq
   ·cases hq
  ·rename_i gs hgs;simp only[Bool.and_eq_true,Bool.not_eq_true',beq_iff_eq] at hf;obtain⟨⟨⟨f1,f2⟩,f3⟩,f4⟩:=hf;have hl1:cs.length=gs.size+YJ P fs:=by rw[hl];simp only[YJ,hgs]
   have ext:∀(zs:Array Value) (n:Nat),(zs.extract f.offset (f.offset+n)).toList.drop 0=(zs.toList.drop f.offset).take n:=fun zs n=>by
    rw[List.drop_zero,Array.toList_extract,List.extract_eq_take_drop];congr 1;omega
   refine main gs.size _ _ (zfk hgs O f3) (zfk hgs O f3) (by omega) f4 (by rw[List.length_drop];omega) fun q hq=> ?_;have hfo:P.fieldsOf f.type=gs:=by simp only[Program.fieldsOf,hgs]
   rw[run_equalIn_agg (P:=P) w (d+1) f.type _ _ (by rw[hfo];exact hgs) f2,hfo];refine zbd (m:=m) (h:=h) (w:=w) (off:=0) d f1 ?_ ?_ (by rw[List.length_take];simp;omega) hq
   ·rw[ext];exact zl.take _ H
   ·rw[ext];exact zl.take _ K
  ·cases hf
theorem zgz(R:zt cx m s a w){d n:Nat}{op:BinOp}{neg:Bool}{t u:TypeId}{x y:Operand}{x' y':Opd}{fs:Array Field}(ho:o.op= .binOp op t x y u)(hop:op=if neg then .neq else .eql)(ht:cx.P.underlying t=some (.struct fs))(hf:zbs cx.P fs.toList 0=true)(hn0:YJ cx.P fs.toList=n)
  (hp:cx.P.stoodInHeld t=false) (hm:cx.P.eqGuardType cx.P.depth t=false) (hd:o.dst=some d) (hn:d < cx.n) (hx:zJ x=some x') (hy:zJ y=some y') {out:Out}
  (he:ev s (.seql d neg n x' y')=some out) (hK:∀m' a' w',zt cx m' (s.app out) a' w'→K a' w'):o.wp cx.P a w K Q:=by
 simp only[ev] at he;split at he;rotate_left
 ·cases he
 rename_i cs ds hp1 hp2;split at he;rotate_left
 ·cases he
 rename_i hl;rw[omi] at he;obtain⟨b,hb,rfl⟩:=he;have h1:=R.opd hx;have h2:=R.opd hy;rw[hp1] at h1;rw[hp2] at h2;obtain⟨us,e1,r1⟩:=h1;obtain⟨vs,e2,r2⟩:=h2;have hfo:cx.P.fieldsOf t=fs:=by simp only[Program.fieldsOf,ht]
 have hq:=run_equalIn_agg (P:=cx.P) w 9999 t us vs (by rw[hfo];exact ht) hp;rw[hfo,zbS (w:=w) (off:=0) 9997 hf (by simpa using r1) (by simpa using r2) (by omega) hb] at hq;have hg:=run_eqGuard_agg (P:=cx.P) w op t x y us vs hm;refine qC R hd hn (yG _) ?_ hK;cases neg<;>simp only[Bool.false_eq_true,if_true,if_false] at hop ⊢<;>subst hop
 ·have hr:=run_eql_struct (P:=cx.P) w t us vs;rw[hq] at hr;simp only[execOp,ho,e1,e2,Sem.run_bind,hg,Result.andThen_ok,hr];rfl
 ·have hr:=run_neq_struct (P:=cx.P) w t us vs;rw[hq] at hr;simp only[execOp,ho,e1,e2,Sem.run_bind,hg,Result.andThen_ok,hr];rfl
theorem zt.poke(R:zt cx m s a w){n b off:Nat}{f:NI}{blk:Blk}{cells:Array Value}{T:TypeId}{us:List Value}(hf:m.inf n=some f)(hb:f.blk=some b)(hh:w.heap[b]? =some (.cells cells T (0,0)))(hfit:off+us.length≤cells.size)(hone:∀v∈us,v.oneCell'=true)
  (hB:Ext [] m w.heap m (w.setRow b (splice cells.toList off us).toArray).heap→zhQ m (w.setRow b (splice cells.toList off us).toArray).heap n f blk (splice cells.toList off us)):
  zt cx m (s.blk n blk) a (w.setRow b (splice cells.toList off us).toArray)∧(storeCells ⟨b,off,none⟩ us).run cx.P w= .ok () (w.setRow b (splice cells.toList off us).toArray):=by
 have hN:=R.hp n;rw[hf] at hN;have hsz:(splice cells.toList off us).toArray.size=cells.size:=by
  simp only[List.size_toArray];rw[xR (by simpa using hfit)];simp
 have hE:Ext [] m w.heap m (w.setRow b (splice cells.toList off us).toArray).heap:=by
  obtain⟨k0,hk0⟩:=zT.some_blk hN;rw[hk0] at hN;unfold zT at hN;simp only[hb] at hN;have hown:=hN.2.1;have hother:∀c,c≠b→(w.setRow b (splice cells.toList off us).toArray).heap[c]? =w.heap[c]?:=fun c hc=>by
   simp only[World.setRow,Array.getElem?_modify];rw[if_neg (Ne.symm hc)]
  refine⟨fun _ _ _ h=>h,fun c x y z hc ho=>⟨ho,hother c ?_⟩,fun c x y z j g hc _ hg ho hj=>⟨ho,hother c ?_⟩⟩
  ·intro e;subst e;rw[hown] at ho;cases ho
  ·intro e;subst e;rw[hown] at ho;cases ho;rw[hf] at hg;cases hg;exact hj hb
 refine⟨(R.upd (k:=blk) hf hb hh hsz (by simpa using hB hE)).1,?_⟩;have hst:=run_storeCells_at cx.P b off T us 0 cells w hh (by simpa using hfit) hone;simp only[Nat.add_zero] at hst;rw[hst];simp[splice]
theorem zc1(s:St){n:Nat}{b:Blk}(h:s.hp n=some b):s.blk n b=s:=by
 obtain⟨sl,hp,gh⟩:=s;simp only[St.blk];congr 1;funext k;by_cases e:k=n
 ·subst e;simp only[if_true];exact h.symm
 ·simp only[if_neg e]
theorem RdLL.splice{o:Bool}{h:Hp}{sz:Nat}{xs ys:List (List D)}{us vs:List Value}{bs cs:List Nat}(H:RdLL o h sz xs us bs)(K:RdLL o h sz ys vs cs)(hv:vs.length=ys.length * sz){off:Nat}(ho:off≤xs.length)(hfit:off * sz+vs.length≤us.length):
  ∃p q,RdLL o h sz (xs.take off++ys++xs.drop (off+ys.length)) (AW.splice us (off * sz) vs) (p++cs++q)∧(p++q).Sublist bs:=zb7 H K hv ho hfit
theorem zjd(R:zt cx m s a w){sz:Nat}{ts:Array TypeId}{t e:TypeId}{i:TypeInfo}{z:Value}{zs:List D}{x:Operand}{x':Opd}(ho:o.op= .call {callee:= .builtin .clear,args:=#[x],argTypes:=ts})(ht0:ts[0]? =some t)(ht:cx.P.underlying t=some (.slice e))
  (hi:cx.P.info? e=some i) (hz:i.zero=some z) (hsz:i.size=sz) (hzs:∃zs0 fx,z.cells.toList.mapM zaf=some zs0∧zs=JG zs0 fx) (hzl:zs.length=sz) (h0:sz≠0) (hd:o.dst=none) (hx:zJ x=some x') {out:Out}
  (he:ev s (.clear sz zs x')=some out) (hK:∀m' a' w',zt cx m' (s.app out) a' w'→K a' w'):o.wp cx.P a w K Q:=by
 obtain⟨zs0,fx,hzs,rfl⟩:=hzs;have hp:=R.opd hx;simp only[ev] at he;split at he;rotate_left
 ·cases he
 rename_i n off len hxv;split at he;rotate_left
 ·cases he
 rename_i zz xs own cp hk;split at he;rotate_left
 ·cases he
 rename_i hc;obtain⟨rfl,hle,hzlen⟩:=hc;cases he;rw[hxv] at hp;obtain⟨_,f,hf,hcap,ad,hv,had⟩:=hp;have hrun0:∀w',(Builtin.clear_ ts o.type #[.slice ad len (f.cap - off)]).run cx.P w= .ok (.tuple #[]) w'→(execOp a.eval o).run cx.P w= .ok (.value<|.tuple #[]) w':=fun w' h=>by
  unfold execOp;simp only[ho,resolve,invoke,builtin,Sem.run_bind,Sem.run_pure,Result.andThen_ok,List.map_toArray,List.map_cons,List.map_nil,hv,h]
 by_cases hl0:len=0
 ·subst hl0;have hrun:(Builtin.clear_ ts o.type #[.slice ad 0 (f.cap - off)]).run cx.P w= .ok (.tuple #[]) w:=by
   simp only[Builtin.clear_,ht0,List.getElem?_toArray,List.getElem?_cons_zero,Sem.run_bind,zp ht,Result.andThen_ok];cases ad<;>simp
  refine js (hrun0 _ hrun) ?_;rw[hd];refine hK m _ _ ?_;have e1:xs.take off++List.replicate 0 (JG zs0 fx)++xs.drop (off+0)=xs:=by simp
  rw[e1];have:s.app ⟨[],none,[(n,.data zz xs own cp)]⟩=s:=by
   unfold St.app St.erOpt St.blks St.blks St.setOpt;simp only;rw[zc1 s hk]
  rw[this,zgB];exact R
 ·have hN:=R.hp n;rw[hf,hk] at hN;obtain⟨b,hb,hadb⟩:=had (by omega);unfold zT at hN;simp only[hb] at hN;obtain⟨g1,g2,cells,T,g4,g5,g6,g6',bs,g8,g9,g10⟩:=hN;have hzc:z.cells.size=zz:=by
   have:=(xx (h:=w.heap) hzs).length;rw[kG] at hzlen;simp only[Array.length_toList] at this;omega
  have hvs:(Builtin.zeroCells z.cells len).toList.length=len * zz:=by
   rw[Array.length_toList];simp[Builtin.zeroCells,hzc]
  have hfits:=g8.fits;simp only[Array.length_toList] at hfits;have hle2:(off+len) * zz≤xs.length * zz:=Nat.mul_le_mul_right _ hle;rw[Nat.add_mul] at hle2;have hrl:=zaT (zs:=fx) (xx (h:=w.heap) hzs) rfl;have hone:∀v∈(Builtin.zeroCells z.cells len).toList,v.oneCell'=true:=fun v hv=>by
   have hcells:∀v∈z.cells.toList,v.oneCell'=true:=by
    have key:∀{ds:List D} {vs:List Value} {bs:List Nat},RdL true w.heap ds vs bs→∀v∈vs,v.oneCell'=true:=by
     intro ds;induction ds with
     |nil=>intro vs bs H v hv;simp only[RdL] at H;rw[H.1] at hv;cases hv
     |cons d ds ih=>
      intro vs bs H v hv;simp only[RdL] at H;obtain⟨v0,vs',b1,b2,rfl,rfl,hc,h1,h2⟩:=H;rcases List.mem_cons.1 hv with rfl|hv
      ·exact j8 hc h1
      ·exact ih h2 v hv
    exact key hrl
   simp only[Builtin.zeroCells,Array.toList_map,List.mem_map] at hv;obtain⟨j,_,rfl⟩:=hv;have hlt:j % z.cells.size < z.cells.size:=Nat.mod_lt _ (by omega);refine hcells _ ?_;rw[getElem!_pos z.cells _ hlt];simp
  obtain⟨h1,h2⟩:=R.poke (blk:= .data zz (xs.take off++List.replicate len (JG zs0 fx)++xs.drop (off+len)) own cp) (off:=off * zz) hf hb g4 (us:=(Builtin.zeroCells z.cells len).toList) (by rw[hvs];omega) hone (fun E=>by
   refine⟨g6,g6',?_⟩;have g8':RdLL own (w.setRow b (splice cells.toList (off * zz) (Builtin.zeroCells z.cells len).toList).toArray).heap zz xs cells.toList bs:=by
    refine RdLL.congr _ _ _ _ (fun c hc=> ?_) g8;obtain⟨x,y,z,hxyz⟩:=RdLL.there _ _ _ _ g8 c hc;cases own with
    |true=>exact(E.hid c x y z n f hxyz O hf ((g9 O).2 c hc).1 ((g9 O).2 c hc).2).2
    |false=>exact(E.free c x y z hxyz<|g10 O c hc).2
   have hmade:∀o',RdLL o' (w.setRow b (splice cells.toList (off * zz) (Builtin.zeroCells z.cells len).toList).toArray).heap zz (List.replicate len<|JG zs0 fx) (Builtin.zeroCells z.cells len).toList []:=fun o'=>by
    have:=zbM (RdL.congr (h':=(w.setRow b (splice cells.toList (off * zz) (Builtin.zeroCells z.cells len).toList).toArray).heap) _ _ [] (by simp) hrl) len (Builtin.zeroCells z.cells len).toList (fun j hj=>by
     rw[hzlen] at hj ⊢;rw[←hzc] at hj ⊢;have hlt:j % z.cells.size < z.cells.size:=Nat.mod_lt _ (by omega);simp only[Builtin.zeroCells,Array.toList_map,List.getElem?_map,Array.getElem?_toList,Array.getElem?_range,hj,if_true,Option.map_some];rw[getElem!_pos z.cells _ hlt,Array.getElem?_eq_getElem hlt])
    rw[hzlen] at this;cases o' with
    |true=>exact this
    |false=>exact RdLL.weak _ _ _ _ this
   obtain⟨p,q,hset,hsub⟩:=RdLL.splice g8' (hmade own) (by rw[hvs];simp) (off:=off) (by omega) (by rw[hvs,Array.length_toList];omega);simp only[List.length_replicate,List.append_nil] at hset;refine⟨p++q,hset,fun e=>⟨List.Nodup.sublist hsub (g9 e).1,fun c hc=>(g9 e).2 c (hsub.subset hc)⟩,fun e c hc=>g10 e c (hsub.subset hc)⟩)
  have hrun:(Builtin.clear_ ts o.type #[.slice ad len (f.cap - off)]).run cx.P w= .ok (.tuple #[]) (w.setRow b (splice cells.toList (off * zz) (Builtin.zeroCells z.cells len).toList).toArray):=by
   obtain⟨k,rfl⟩:∃k,len=k+1:=⟨len - 1,by omega⟩;subst hadb;rw[g6] at *;simp only[Builtin.clear_,ht0,List.getElem?_toArray,List.getElem?_cons_zero,Sem.run_bind,zp ht,JU hi hz,Result.andThen_ok,Sem.run_pure,h2]
  refine js (hrun0 _ hrun) ?_;rw[hd];refine hK m _ _ ?_;rw[zgB];exact h1
end Go.AW
