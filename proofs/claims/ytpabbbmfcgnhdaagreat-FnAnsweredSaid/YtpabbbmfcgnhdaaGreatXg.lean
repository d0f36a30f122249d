/- Regions in whatever order where some operations may be taken first, although a call beside them writes. Lemmas. Conditions: none. -/
import Derived.Test.YtpabbbmfcgnhdaaGreatXf
import Derived.OrdersHeld
set_option linter.unusedVariables false
namespace Go.AW
def noP(Q:Exit→Act→World→Prop):Exit→Act→World→Prop
 | .panic _,_,_=>False
 |e,a,w=>Q e a w
section
variable {P:Program} {ops:Array Oper} {Q:Exit→Act→World→Prop} {S:World→Prop} {early:Nat→Bool}
def wpE(P:Program)(ops:Array Oper)(Q:Exit→Act→World→Prop)(S:World→Prop)(early:Nat→Bool):Nat→Array Bool→Act→World→Prop
 |0,l,a,w=>Region.ready .any ops l=[]∧Q .normal a w
 |f+1,l,a,w=>(Region.ready .any ops l=[]→Q .normal a w)∧
   ∀i∈Region.ready .any ops l,wpOp P ops Q i (fun a' w'=>(early i=true→S w→S w')∧wpE P ops Q S early f (l.setIfInBounds i true) a' w') a w
theorem wpE.any:∀{f:Nat} {l:Array Bool} {a:Act} {w:World},wpE P ops Q S early f l a w→wpAny P .any ops Q f l a w
 |0,_,_,_,h=>h
 |_+1,_,_,_,h=>⟨h.1,fun i hi=>wpOp_mono (fun _ _ h'=>wpE.any h'.2) (h.2 i hi)⟩
def zbt(ops:Array Oper)(l:Array Bool):Prop:=∀(q:Nat) (o:Oper),ops[q]? =some o→l.getD q false=true→∀e∈o.after,Region.binds .any e=true→l.getD e.on false=true
theorem zbt.step{l:Array Bool}(D:zbt ops l){i:Nat}(hi:i∈Region.ready .any ops l):zbt ops (l.setIfInBounds i true):=by
 intro q o ho hq e he hb;obtain⟨_,o',ho',hall⟩:=mem_ready.1 hi;by_cases e':q=i
 ·subst e';rw[ho] at ho';cases ho';exact getD_set_true (hall e he hb)
 ·have hq:l.getD q false=true:=by
   rw[Array.getD_eq_getD_getElem?,Array.getElem?_setIfInBounds_ne<|Ne.symm e'] at hq
   rwa [Array.getD_eq_getD_getElem?]
  exact getD_set_true (D q o ho hq e he hb)
theorem zaW{T:World→Prop}{i:Nat}{oi:Oper}{v:Value}(hi:ops[i]? =some oi)(hs:Region.noSelect ops=true)(hQ:∀c a w,Q (.panic c) (a.put oi.dst v) w→Q (.panic c) a w)
  (hE:∀l',zbt ops l'→l'.getD i true=false→∀j∈Region.ready .any ops l',(early j=true∧∀w,T w↔S w)∨∀w,T w):
  ∀(f:Nat) (l:Array Bool) (a:Act) (w:World),zbt ops l→
   (∀j oj,ops[j]? =some oj→j≠i→l.getD j true=false→(∀e∈oj.after,Region.binds .any e=true→e.on≠i)→oi.apart ops oj=true)→
   i∈Region.ready .any ops l→YieldsIf P ops T oi v a→T w→wpE P ops Q S early f (l.setIfInBounds i true) (a.put oi.dst v) w→wpE P ops Q S early (f+1) l a w
 |f,l,a,w,D,hap,hr,hy,hS,H=>by
  refine⟨fun h0=>absurd hr (by rw[h0];exact List.not_mem_nil),fun j hj=> ?_⟩;rcases Nat.decEq j i with hne|rfl
  ·obtain⟨hju,oj,hoj,hall⟩:=mem_ready.1 hj;have hiu:=(mem_ready.1 hr).1;have hno:∀e∈oj.after,Region.binds .any e=true→e.on≠i:=by
    intro e he hb heq;have h1:=hall e he hb;rw[heq] at h1;by_cases hlt:i < l.size
    ·rw[ZX hlt true false,h1] at hiu;cases hiu
    ·rw[Array.getD_eq_getD_getElem?,Array.getElem?_eq_none (by omega)] at h1;cases h1
   match f,H with
   |0,H=>
    have:=ready_mono hj hne;rw[H.1] at this;cases this
   |f+1,H=>
    have k1:=wpOp_putIf hoj (hap j oj hoj hne hju hno) (fun cs b=>Region.noSelect_spec hs i oi cs b hi) (fun cs b=>Region.noSelect_spec hs j oj cs b hoj) hQ hy (H.2 j<|ready_mono hj hne);have hearly:=hE l D hiu j hj;refine wpOp_mono (fun a' w' ⟨hy',hS',H'⟩=>⟨hS',zaW hi hs hQ hE f (l.setIfInBounds j true) a' w' (D.step hj) (fun k ok hk hki hku hkn=> ?_) (ready_mono hr<|Ne.symm hne) hy' (hearly.elim (fun e=>(e.2 _).2 (hS' e.1<|(e.2 _).1 hS)) (fun e=>e _)) ?_⟩) k1
    ·refine hap k ok hk hki ?_ hkn;by_cases hjk:j=k
     ·subst hjk;exact hju
     ·rwa [getD_set_ne true hjk] at hku
    ·rw[Array.setIfInBounds_comm _ _ hne];exact H'
  ·exact hy.wpOp hi hS ⟨fun _ h=>h,H⟩
termination_by f=>f
end
def QM(s:St)(NS:List Nat):IOp→Bool
 | .mov _ _=>true
 | .faddr _ _ _=>true
 | .build _ _ _=>true
 | .inv _ _=>true
 | .ext _ _ _=>true
 | .bin _ _ _ _=>true
 | .load _ _ x=>match s.ev x with
  | .one (.ptr<|.nm n _ _)=>NS.contains n
  |_=>false
 | .iaddr _ _ x _=>match s.ev x with
  | .one (.sl _ _ _)=>true
  |_=>false
 | .len _ _ x=>match s.ev x with
  | .one (.sl _ _ _)=>true
  |_=>false
 | .nilchk _ x=>match s.ev x with
  | .one (.ptr _)=>true
  |_=>false
 |_=>false
variable {cx:Cx} {m:M} {s:St} {a:Act} {w:World} {o:Oper} {ops:Array Oper}
def Xs(m:M)(w:World)(NS:List Nat)(w':World):Prop:=∀n,NS.contains n=true→∀f b,m.inf n=some f→f.blk=some b→w'.heap[b]? =w.heap[b]?
theorem zaP(R:zt cx m s a w){io:IOp}{NS:List Nat}(h:x9 cx.P cx.n o=some io)(hl:QM s NS io=true){out:Out}(he:ev s io=some out):
  ∃d v u,o.dst=some d∧d < cx.n∧out=⟨[],some (d,v),[]⟩∧qK m w.heap v u∧∀w',Xs m w NS w'→(execOp a.eval o).run cx.P w'= .ok (.value u) w':=by
 have other:QM s NS io=false→False:=fun h'=>by rw[h'] at hl;cases hl
 unfold x9 at h;split at h
 ·rename_i x hop;simp only[obi,omi] at h;obtain⟨d,hd,x',hx,rfl⟩:=h;simp only[ev,Option.some.injEq] at he;subst he;exact⟨d,_,_,(zd hd).1,(zd hd).2,rfl,R.opd hx,fun w' _=>by simp only[execOp,hop];rfl⟩
 ·rename_i x hop;simp only[obi,omi] at h;obtain⟨d,hd,x',hx,rfl⟩:=h;simp only[ev,Option.some.injEq] at he;subst he;exact⟨d,_,_,(zd hd).1,(zd hd).2,rfl,R.opd hx,fun w' _=>by simp only[execOp,hop];rfl⟩
 case h_6 t ps hop=>
  simp only[obi] at h;obtain⟨d,hd,fs,hfs,h⟩:=h;split at h;rotate_left
  ·cases h
  rename_i hall;simp only[obi,omi] at h;obtain⟨zs,hz,qs,hps,rfl⟩:=h;simp only[ev,omi] at he;obtain⟨cs,hcs,rfl⟩:=he;simp only[KP,obi] at hz;obtain⟨i,hi,z,hiz,hz⟩:=hz;have hzr:zl (qE m w.heap) zs z.cells.toList:=XV (fun _ _=>xo) hz;obtain⟨cells',h1,h2,h3⟩:=zbW (Xw R hps) hzr hcs;have ht:=J3 hfs;have hpl:(fun i=>(fs.toList.map fun f=>(f.offset,(szP cx.P f.type).getD 0)).toArray[i]?)=YC cx.P fs:=by
   funext j;simp only[YC,List.getElem?_toArray,List.getElem?_map,Array.getElem?_toList];cases hf:fs[j]? with
   |none=>rfl
   |some f=>
    have:(szP cx.P f.type).isSome=true:=List.all_eq_true.1 hall f (by simpa using Array.mem_of_getElem? hf);obtain⟨n,hn⟩:=Option.isSome_iff_exists.1 this;simp[hn]
  refine⟨d,.agg cs,.agg cells',(zd hd).1,(zd hd).2,rfl,⟨_,rfl,h2⟩,fun w' _=> ?_⟩;have hplaces:((fs.mapM fun f=>do pure (f.offset,←sizeOf f.type):Sem (Array (Nat×Nat)))).run cx.P w'= .ok (fs.toList.map fun f=>(f.offset,(szP cx.P f.type).getD 0)).toArray w':=by
   rw[Array.mapM_eq_mapM_toList];have:=zbm (P:=cx.P) (w:=w') fs.toList (fun f hf=>List.all_eq_true.1 hall f hf);show(Sem.bind (fs.toList.mapM fun f=>do pure (f.offset,←sizeOf f.type)) fun l=>Sem.pure l.toArray).run cx.P w'=_;rw[show ∀(x:Sem (List (Nat×Nat))) (k:List (Nat×Nat)→Sem (Array (Nat×Nat))),Sem.bind x k=x >>= k from fun _ _=>rfl,Sem.run_bind,this];rfl
  simp only[execOp,hop,Instr.build,Sem.run_bind,JU hi hiz,zp ht,Result.andThen_ok,hplaces];simp only[Array.toList_map,hpl,h1];rfl
 case h_8 t x hop=>
  simp only[obi,omi] at h;obtain⟨d,hd,ag,hag,x',hx,rfl⟩:=h;have hp:=R.opd hx;simp only[QM] at hl;split at hl;rotate_left
  ·cases hl
  rename_i n i j hev;have hnp:∃f b,m.inf n=some f∧f.blk=some b∧a.eval x= .pointer (some ⟨b,i * f.sz+j,none⟩):=by
   rw[hev] at hp;exact hp.2
  obtain⟨f0,b0,hf0,hb0,hu0⟩:=hnp;simp only[zfQ,obi] at hag;obtain⟨td,htd,hag⟩:=hag;cases hA:KI td with
  |true=>
   rw[hA] at hag;simp only[if_true,omi,szP] at hag;obtain⟨n',⟨i',hi,hin⟩,rfl⟩:=hag;simp only[ev,omi] at he;obtain⟨cs,hcs,rfl⟩:=he;obtain⟨b,off,cells,T,fz,hu,hh,hl',hall⟩:=XX R hp hcs;have hlen:=hall.length;have hbb:b=b0:=by rw[hu0] at hu;simp only[Value.pointer.injEq,Option.some.injEq,Addr.mk.injEq] at hu;exact hu.1.symm
   refine⟨d,.agg cs,.agg ((cells.toList.drop off).take n').toArray,(zd hd).1,(zd hd).2,rfl,⟨_,rfl,by simpa using hall⟩,fun w' hw'=> ?_⟩;have hh':w'.heap[b]? =some (.cells cells T fz):=by rw[hbb] at hh ⊢;rw[hw' n hl f0 b0 hf0 hb0];exact hh
   have hrun:=QJ (P:=cx.P) (off:=off) (n:=n') hh' (by omega);simp only[execOp,hop,hu,Instr.loadAt,Instr.sureAddr,loadVar,Sem.run_bind,Sem.run_pure,Result.andThen_ok,QB htd,hA,if_true,qt hi,hin,hrun]
  |false=>
   rw[hA] at hag;simp only[Bool.false_eq_true,if_false,Option.some.injEq] at hag;subst hag;simp only[ev,obi,omi] at he;obtain⟨cs,hcs,v,hv,rfl⟩:=he;obtain⟨b,off,cells,T,fz,hu,hh,hl',hall⟩:=XX R hp hcs;have hbb:b=b0:=by rw[hu0] at hu;simp only[Value.pointer.injEq,Option.some.injEq,Addr.mk.injEq] at hu;exact hu.1.symm
   match cs,hl' with
   |[c],_=>
    simp only[kH,Bool.false_eq_true,if_false,Option.some.injEq] at hv;subst hv;obtain⟨u,hu1,hrel⟩:=hall.at (i:=0) (a:=c) rfl;refine⟨d,.one c,u,(zd hd).1,(zd hd).2,rfl,hrel,fun w' hw'=> ?_⟩;have hh':w'.heap[b]? =some (.cells cells T fz):=by rw[hbb] at hh ⊢;rw[hw' n hl f0 b0 hf0 hb0];exact hh
    have hcell:w'.cell? ⟨b,off,none⟩=some u:=by
     rw[cell_of_row w' b off cells T fz hh'];rw[List.getElem?_take,if_pos (by omega),List.getElem?_drop] at hu1;simpa using hu1
    simp only[execOp,hop,hu,Instr.loadAt,Instr.sureAddr,loadVar,Sem.run_bind,Sem.run_pure,Result.andThen_ok,QB htd,hA,Bool.false_eq_true,if_false,load,Sem.run,hcell]
 case h_19 t x y hop=>
  simp only[obi,omi] at h;obtain⟨d,hd,e,hel,sz,hsz,x',hx,y',hy,rfl⟩:=h;have h1:=R.opd hx;have h2:=R.opd hy;simp only[QM] at hl;split at hl;rotate_left
  ·cases hl
  rename_i k off len hp;simp only[szP,omi] at hsz;obtain⟨i,hi,hin⟩:=hsz;simp only[ev,omi] at he;obtain⟨v,hv,rfl⟩:=he;rw[hp] at hv h1;unfold St.at at hv;split at hv
  case h_5 k' off' len' kk ix hp' hq=>
   cases hp';rw[hq] at h2;have h2:=ZB h2;split at hv<;>simp only[Option.some.injEq,reduceCtorEq] at hv;rename_i hc;obtain⟨hbs,h0,hlt⟩:=hc;subst hv;obtain⟨f,hf,hcap,ad,hu,had⟩:=ye h1;obtain⟨b,hb,rfl⟩:=had (by omega);have hN:=R.hp k;rw[hf] at hN;have hfs:=zT.sz hbs hN;refine⟨d,.one<|.ptr<|.nm k (off+ix.toNat) 0,.pointer<|some ⟨b,off * f.sz+ix.toNat * sz,none⟩,(zd hd).1,(zd hd).2,rfl,⟨rfl,f,b,hf,hb,?_⟩,fun w' _=> ?_⟩
   ·rw[hfs,Nat.add_mul];rfl
   ·simp only[execOp,hop,h2,hu,Instr.indexAt,asIntOf,Sem.run_bind,Sem.run_pure,Result.andThen_ok,zp<|jf hel,h0,hlt,and_self,if_true,qt hi,hin,Qp]
  all_goals
   first|(rename_i hp' _;cases hp';done)|(cases hv;done)|(rename_i hp';cases hp';done)
 case h_12 u t x hop=>
  simp only[obi] at h;obtain⟨d,hd,h⟩:=h;split at h;rotate_left
  ·simp only[omi] at h;obtain⟨x',hx,rfl⟩:=h;cases hl
  ·cases h
  simp only[omi] at h;obtain⟨x',hx,rfl⟩:=h;simp only[ev] at he;split at he;rotate_left
  ·cases he
  rename_i p hp;simp only[Option.some.injEq] at he;subst he;have h1:=R.opd hx;rw[hp] at h1;have h1:=kO h1;exact⟨d,_,_,(zd hd).1,(zd hd).2,rfl,yG (!p),fun w' _=>by simp only[execOp,hop,h1,Op.unary];rfl⟩
 case h_10 x hop=>
  simp only[obi,omi] at h;obtain⟨d,hd,x',hx,rfl⟩:=h;have h1:=R.opd hx;simp only[ev] at he;split at he;rotate_left
  ·cases he
  rename_i p hp;simp only[Option.some.injEq] at he;subst he;rw[hp] at h1;obtain⟨_,h2⟩:=h1;have:∃ad,a.eval x= .pointer (some ad):=by
   cases p with
   |nm n i j=>obtain⟨f,b,_,_,hv⟩:=h2;exact⟨_,hv⟩
   |bd cs j=>obtain⟨b,off,cells,T,fz,bs,hv,_⟩:=h2;exact⟨_,hv⟩
  obtain⟨ad,had⟩:=this;refine⟨d,_,_,(zd hd).1,(zd hd).2,rfl,by have:=R.opd hx;rw[hp] at this;exact this,fun w' _=>by simp only[execOp,hop,had];rfl⟩
 case h_17 t x fi hop=>
  simp only[obi] at h;obtain⟨d,hd,fs,hfs,f,hf,k,hk,h⟩:=h;split at h
  ·cases h
  rename_i h0;simp only[omi] at h;obtain⟨x',hx,rfl⟩:=h;have h1:=R.opd hx;have ht:=J3 hfs;simp only[szP,omi] at hk;obtain⟨i,hi,hin⟩:=hk;simp only[ev] at he;split at he
  ·rename_i k' ei j hp;simp only[Option.some.injEq] at he;subst he;rw[hp] at h1;obtain⟨_,g,b,hg,hb,hv⟩:=h1;refine⟨d,.one<|.ptr<|.nm k' ei (j+f.offset),.pointer<|some ⟨b,ei * g.sz+(j+f.offset),none⟩,(zd hd).1,(zd hd).2,rfl,⟨rfl,g,b,hg,hb,rfl⟩,fun w' _=> ?_⟩;simp only[execOp,hop,Instr.fieldAt,hv,Instr.sureAddr,Sem.run_bind,Sem.run_pure,Result.andThen_ok,zp ht,hf,Qg hi hin h0,Nat.add_assoc]
  ·rename_i cs j hp;simp only[Option.some.injEq] at he;subst he;rw[hp] at h1;obtain⟨_,b,off,cells,T,fz,bs,hv,hh,hr,hb,hbs⟩:=h1;refine⟨d,.one<|.ptr<|.bd cs (j+f.offset),.pointer<|some ⟨b,off+(j+f.offset),none⟩,(zd hd).1,(zd hd).2,rfl,⟨rfl,b,off,cells,T,fz,bs,rfl,hh,hr,hb,hbs⟩,fun w' _=> ?_⟩;simp only[execOp,hop,Instr.fieldAt,hv,Instr.sureAddr,Sem.run_bind,Sem.run_pure,Result.andThen_ok,zp ht,hf,Qg hi hin h0,Nat.add_assoc]
  ·rename_i kk cs hp;split at he;rotate_left
   ·cases he
   rename_i hle;simp only[Option.some.injEq] at he;subst he;rw[hp] at h1;obtain⟨_,g,hg,bs,hr,hbs⟩:=h1;simp only[Rd] at hr;obtain⟨b,off,cells,T,fz,bs',hv,hh,rfl,_,hr⟩:=hr;obtain⟨b1,b2,rfl,_,hr2⟩:=hr.split f.offset;have e:(((cells.toList.drop off).take cs.length).drop f.offset)=(cells.toList.drop (off+f.offset)).take (cs.drop f.offset).length:=by
    rw[List.drop_take,List.drop_drop,List.length_drop]
   rw[e] at hr2;refine⟨d,.one<|.sub kk<|.ptr<|cs.drop f.offset,.pointer<|some ⟨b,off+f.offset,none⟩,(zd hd).1,(zd hd).2,rfl,⟨rfl,g,hg,b::b2,?_,fun c hc=>hbs c (by
    simp only[List.mem_cons,List.mem_append] at hc ⊢;rcases hc with hc|hc
    ·exact .inl hc
    ·exact .inr (.inr hc))⟩,fun w' _=> ?_⟩
   ·simp only[Rd];exact⟨b,off+f.offset,cells,T,fz,b2,rfl,hh,rfl,(fun h=>by cases h),hr2⟩
   ·simp only[execOp,hop,Instr.fieldAt,hv,Instr.sureAddr,Sem.run_bind,Sem.run_pure,Result.andThen_ok,zp ht,hf,Qg hi hin h0]
  ·cases he
 case h_20 x i hop=>
  simp only[obi,omi] at h;obtain⟨d,hd,x',hx,rfl⟩:=h;have h1:=R.opd hx;simp only[ev] at he;split at he;rotate_left
  ·cases he
  rename_i vs hvs;simp only[omi] at he;obtain⟨v,hv,rfl⟩:=he;rw[hvs] at h1;obtain⟨us,hu,hall⟩:=h1;obtain⟨u,hu1,hrel⟩:=hall.at hv;have hu':us[i]? =some u:=by simpa using hu1
  refine⟨d,v,u,(zd hd).1,(zd hd).2,rfl,?_,fun w' _=> ?_⟩
  ·cases v with
   |top=>trivial
   |one c=>exact hrel
   |agg cs=>exact hrel
   |tup _=>exact hrel.elim
  ·simp only[execOp,hop,Instr.extract,hu,hu'];rfl
 case h_11 op t x y uu hop=>
  simp only[obi] at h;obtain⟨d,hd,x',hx,h⟩:=h;split at h
  ·exfalso;split at h<;>first|(cases h;exact other O)|cases h
  simp only[obi] at h;obtain⟨y',hy,h⟩:=h;split at h
  ·exfalso;split at h<;>first|(rw[omi] at h;obtain⟨_,_,h⟩:=h;cases h;exact other O)|cases h
  split at h
  ·exfalso;split at h<;>first|(cases h;exact other O)|cases h
  cases h;simp only[ev,omi] at he;obtain⟨v,hv,rfl⟩:=he
  suffices hh:∃u,qK m w.heap v u∧∀w',(execOp a.eval o).run cx.P w'= .ok (.value u) w' by
   obtain⟨u,h1,h2⟩:=hh;exact⟨d,v,u,(zd hd).1,(zd hd).2,rfl,h1,fun w' _=>h2 w'⟩
  unfold Jl at hv;split at hv
  ·rename_i k p k' q hp hq;have h1:=R.opd hx;have h2:=R.opd hy;rw[hp] at h1;rw[hq] at h2;have h1:=ZB h1;have h2:=ZB h2;have fin:∀(u:Value),qK m w.heap v u→(∀w',(binOp op t (.int k p)<|.int k' q).run cx.P w'= .ok u w')→∃u,qK m w.heap v u∧∀w',(execOp a.eval o).run cx.P w'= .ok (.value u) w':=by
    intro u hv hr;refine⟨u,hv,fun w'=> ?_⟩;have hg:∀x y,(eqGuard op t x y (.int k p)<|.int k' q).run cx.P w'= .ok () w':=by
     intro x y;unfold eqGuard;cases op<;>rfl
    simp only[execOp,hop,h1,h2,Sem.run_bind,hg,hr w',Result.andThen_ok];rfl
   have sh:zey op k p q=some v→∃u,qK m w.heap v u∧∀w',(execOp a.eval o).run cx.P w'= .ok (.value u) w':=fun hv=>by
    cases op<;>simp only[zey] at hv
    case shl=>split at hv<;>simp only[Option.some.injEq,reduceCtorEq] at hv;rename_i hr;subst hv;exact fin _ (yS _ _) (fun w'=>by simp[binOp,Op.shift,hr])
    case shr=>split at hv<;>simp only[Option.some.injEq,reduceCtorEq] at hv;rename_i hr;subst hv;exact fin _ (yS _ _) (fun w'=>by simp[binOp,Op.shift,hr])
    all_goals (cases hv;done)
   split at hv
   ·rename_i hkk;subst hkk;cases op
    case shl=>exact sh hv
    case shr=>exact sh hv
    case andNot=>exact sh hv
    all_goals simp only[evI] at hv
    case quo=>split at hv<;>simp only[Option.some.injEq,reduceCtorEq] at hv;rename_i hr;subst hv;exact fin _ (yS _ _) (fun w'=>by simp[binOp,Op.intDiv,hr])
    case rem=>split at hv<;>simp only[Option.some.injEq,reduceCtorEq] at hv;rename_i hr;subst hv;exact fin _ (yS _ _) (fun w'=>by simp[binOp,Op.intDiv,hr])
    case eql=>simp only[Option.some.injEq] at hv;subst hv;exact fin _ (yG _) (fun w'=>by simp only[binOp];by_cases e:p=q<;>simp[Op.intCmp,e])
    case neq=>simp only[Option.some.injEq] at hv;subst hv;exact fin _ (yG _) (fun w'=>by simp only[binOp];by_cases e:p=q<;>simp[Op.intCmp,e])
    all_goals first
     |(cases hv;done)
     |(simp only[Option.some.injEq] at hv;subst hv;exact fin _ (yS _ _) (fun w'=>by simp[binOp,Op.intArith,Op.intBits]))
     |(simp only[Option.some.injEq] at hv;subst hv;exact fin _ (yG _) (fun w'=>by simp only[binOp];simp[Op.intCmp];done))
     |(simp only[Option.some.injEq] at hv;subst hv;exact fin _ (yG _) (fun w'=>by by_cases e:p=q<;>simp[binOp,Op.intCmp,e]))
   ·exact sh hv
  ·rename_i p q hp hq;have h1:=R.opd hx;have h2:=R.opd hy;rw[hp] at h1;rw[hq] at h2;have h1:=Ki h1;have h2:=Ki h2;have fin:∀(u:Value),qK m w.heap v u→(∀w',(binOp op t (.string p)<|.string q).run cx.P w'= .ok u w')→∃u,qK m w.heap v u∧∀w',(execOp a.eval o).run cx.P w'= .ok (.value u) w':=by
    intro u hv hr;refine⟨u,hv,fun w'=> ?_⟩;have hg:∀x y,(eqGuard op t x y (.string p)<|.string q).run cx.P w'= .ok () w':=by
     intro x y;unfold eqGuard;cases op<;>rfl
    simp only[execOp,hop,h1,h2,Sem.run_bind,hg,hr w',Result.andThen_ok];rfl
   cases op<;>simp only[evS] at hv
   all_goals first
    |(cases hv;done)
    |(simp only[Option.some.injEq] at hv;subst hv;exact fin _ (yG _) (fun w'=>by simp[binOp,Op.stringOp]))
  ·cases hv
 case h_24 c hop=>
  obtain⟨callee,args,ts⟩:=c;unfold Qa at h;simp only at h;split at h
  ·simp only[obi,omi] at h;obtain⟨x,hx0,d,hd,t,ht,st,hst,x',hx,rfl⟩:=h;have:=KH hx0;subst this;have h1:=R.opd hx;simp only[QM] at hl;split at hl;rotate_left
   ·cases hl
   rename_i k off len hp;simp only[ev,omi] at he;obtain⟨nn,hn',rfl⟩:=he;rw[hp] at hn' h1;simp only[St.lenOf] at hn';split at hn'<;>simp only[Option.some.injEq,reduceCtorEq] at hn';rename_i hst0;have hst1:st=false:=by simpa using hst0
   subst hst1;subst hn';have hu:∃e,cx.P.underlying t=some (.slice e):=by unfold zdY at hst;split at hst<;>simp_all
   obtain⟨e,hu⟩:=hu;obtain⟨f,hf,hcap,ad,hv,had⟩:=ye h1;refine⟨d,.one<|.d<|.int .i64 len,.int .i64 len,(zd hd).1,(zd hd).2,rfl,yS _ _,fun w' _=> ?_⟩;simp[execOp,hop,resolve,hv,invoke,builtin,Builtin.len_,ht,zp hu,goInt]
  all_goals
   exfalso
   try simp only[obi,omi] at h
   repeat' (first|(obtain⟨_,_,h⟩:=h)|(split at h)|(simp only[obi,omi] at h;obtain⟨_,_,h⟩:=h)|(cases h;done)|(cases h;exact other O))
  all_goals exact other rfl
 all_goals exfalso
 all_goals
  repeat' (first|(rw[obi] at h;obtain⟨_,_,h⟩:=h)|(rw[omi] at h;obtain⟨_,_,h⟩:=h;cases h;exact other O)|(split at h)|(cases h;done)|(cases h;exact other O))
def RP(NS:List Nat):List RO→St→(St→Prop)→Prop
 |[],s,Q=>Q s
 |r::rs,s,Q=>r.g.g=none∧QM s NS r.g.o=true∧Qb (ev s r.g.o) fun out=>RP NS rs (s.app out) Q
def RT(P:Program)(NS:List Nat):List RO→St→(St→Prop)→Prop
 |[],s,Q=>Q s
 |r::rs,s,Q=>(r.g.g=none∧QM s [] r.g.o=true∧Qb (ev s r.g.o) fun out=>RT P NS rs (s.app out) Q)∨
   (∃d f args,r.g=⟨none,.callv d f args⟩∧zbf P s d (s.ev f) (args.map s.ev) fun out=>(NS.all fun n=>!out.er.contains n&&!(out.hp.map (·.1)).contains n)=true∧RT P NS rs (s.app out) Q)∨
   ∃d sz zs ps,r.g=⟨none,.bslice d sz zs ps⟩∧Qb (ev s r.g.o) fun out=>RT P NS rs (s.app out) Q
def HS(s:St)(io:IOp)(s1:St):Prop:=∀(cx:Cx) (m:M) (o:Oper) (a:Act) (w:World) (K:Act→World→Prop) (Q:Exit→Act→World→Prop),x9 cx.P cx.n o=some io→zt cx m s a w→(∀m' a' w',zt cx m' s1 a' w'→K a' w')→o.wp cx.P a w K Q
def RU(P:Program):List RO→St→(St→Prop)→Prop
 |[],s,Q=>Q s
 |r::rs,s,Q=>(r.g.g=none∧zd9 r.g.o=true∧Qb (ev s r.g.o) fun out=>RU P rs (s.app out) Q)∨
   (zd9 r.g.o=false∧((je P s r.g fun out=>RU P rs (s.app out) Q)∨
    (∃d f args,r.g=⟨none,.callv d f args⟩∧zbf P s d (s.ev f) (args.map s.ev) fun out=>RU P rs (s.app out) Q)∨
     ∃s1,r.g.g=none∧HS s r.g.o s1∧RU P rs s1 Q))
theorem zgv{P:Program}{n:Nat}{o:Oper}{d sz:Nat}{zs0:List C}{qs:List (Nat×Nat×Opd)}(h1:x9 P n o=some (.bslice d sz zs0 qs)):∃t len ps e zs,o.op= .buildSlice t len ps∧P.underlying t=some (.slice e)∧szP P e=some sz∧0 < sz∧len * sz≤1024∧KP P e=some zs∧zs.length=sz∧(List.replicate len zs).flatten=zs0∧
  xT (fun i=>some (i * sz,sz)) ps.toList=some qs∧o.dst=some d∧d < n:=by
 unfold x9 at h1;split at h1
 case h_24 c hop=>have:=zah h1;cases this
 case h_7 t len ps hop=>
  simp only[obi] at h1;obtain⟨d',hd,e,he,sz',hsz,zs,hz,h1⟩:=h1;split at h1;rotate_left
  ·cases h1
  rename_i hc;split at h1
  ·cases h1
  simp only[omi] at h1;obtain⟨qs',hqs,h1⟩:=h1;cases h1;exact⟨t,len,ps,e,zs,hop,jf he,hsz,hc.1,hc.2.1,hz,hc.2.2,rfl,hqs,(zd hd).1,(zd hd).2⟩
 case h_25=>cases h1
 case h_9=>
  split at h1;rotate_left
  ·cases h1
  simp only[obi,omi] at h1;obtain⟨_,_,_,_,_,_,h1⟩:=h1;cases h1
 all_goals
  rw[obi] at h1;obtain⟨d,hd,h1⟩:=h1
  repeat' (first|(rw[obi] at h1;obtain⟨_,_,h1⟩:=h1)|(rw[omi] at h1;obtain⟨_,_,h1⟩:=h1;cases h1;done)|(split at h1)|(cases h1;done))
theorem zdt{P:Program}{n d:Nat}{f:Opd}{args:List Opd}(h1:x9 P n o=some (.callv d f args)):
  ∃f0 xs ts,o.op= .call {callee:= .value f0,args:=xs,argTypes:=ts}∧yw n o=some d∧zJ f0=some f∧xs.toList.mapM zJ=some args:=by
 have key:∃c:Call,o.op= .call c∧Qa P n o c=some (.callv d f args):=by
  unfold x9 at h1;split at h1
  case h_24 c hop=>exact⟨c,hop,h1⟩
  case h_25=>cases h1
  case h_9=>
   split at h1;rotate_left
   ·cases h1
   simp only[obi,omi] at h1;obtain⟨_,_,_,_,_,_,h1⟩:=h1;cases h1
  all_goals
   rw[obi] at h1;obtain⟨d,hd,h1⟩:=h1
   repeat' (first|(rw[obi] at h1;obtain⟨_,_,h1⟩:=h1)|(rw[omi] at h1;obtain⟨_,_,h1⟩:=h1;cases h1;done)|(split at h1)|(cases h1;done))
 obtain⟨c,hop,hc⟩:=key;obtain⟨callee,xs,ts⟩:=c;unfold Qa at hc;split at hc
 case h_8 f0 hf0=>
  simp only at hf0;subst hf0;simp only[obi,omi] at hc;obtain⟨d',hd,f',hf,xs',hxs,hc⟩:=hc;cases hc;exact⟨f0,xs,ts,hop,hd,hf,hxs⟩
 case h_9=>cases hc
 case h_5=>
  simp only[obi] at hc;obtain⟨_,_,_,_,_,_,_,_,_,_,_,_,hc⟩:=hc;split at hc
  ·simp only[omi] at hc;obtain⟨_,_,hc⟩:=hc;cases hc
  ·cases hc
 case h_2=>
  rw[obi] at hc;obtain⟨_,_,hc⟩:=hc;rw[obi] at hc;obtain⟨_,_,hc⟩:=hc;split at hc;rotate_left
  ·simp only[obi] at hc;obtain⟨_,_,_,_,_,_,_,_,_,_,_,_,hc⟩:=hc;split at hc
   ·simp only[obi,omi] at hc;obtain⟨_,_,_,_,hc⟩:=hc;cases hc
   ·cases hc
  simp only[obi] at hc;obtain⟨_,_,_,_,_,_,_,_,hc⟩:=hc;split at hc;rotate_left
  ·cases hc
  simp only[obi,omi] at hc;obtain⟨_,_,_,_,hc⟩:=hc;cases hc
 all_goals
  simp only[obi,omi] at hc;obtain⟨_,_,hc⟩:=hc
  repeat' (obtain⟨_,_,hc⟩:=hc)
  first|(cases hc;done)|skip
theorem zdv{P:Program}{n:Nat}{ops:Array Oper}{i:Nat}{is:List Nat}{gs:List GOp}(h:(i::is).mapM (fun i=>ops[i]?.bind (toG P n ops))=some gs):
  ∃o g gs',ops[i]? =some o∧toG P n ops o=some g∧gs=g::gs'∧is.mapM (fun i=>ops[i]?.bind (toG P n ops))=some gs':=by
 simp only[List.mapM_cons,Option.pure_def,Option.bind_eq_bind,obi] at h;obtain⟨g,⟨o,ho,hg⟩,gs',hgs,e⟩:=h;cases e;exact⟨o,g,gs',ho,hg,rfl,hgs⟩
section
variable {Q:Exit→Act→World→Prop} {early:Nat→Bool} {NS:List Nat}
theorem zkh(hs:Region.noSelect ops=true)(hQ:∀c a w,¬Q (.panic c) a w):∀(is:List Nat) (gs:List GOp) (l l1:Array Bool) (s:St) (a:Act) (Q1:St→Prop) (f:Nat),
  is.mapM (fun i=>ops[i]?.bind (toG cx.P cx.n ops))=some gs→zad ops is l=some l1→zbt ops l→(∀i∈is,∀(o:Oper) (g:GOp),ops[i]? =some o→toG cx.P cx.n ops o=some g→g.o.isLoad=true→∀l',zbt ops l'→l'.getD i true=false→∀j∈Region.ready .any ops l',early j=true)→zt cx m s a w→
  RP NS (gs.map fun g=>⟨g,0,[]⟩) s Q1→(∀s1 a1,Q1 s1→zt cx m s1 a1 w→wpE cx.P ops Q (Xs m w NS) early f l1 a1 w)→wpE cx.P ops Q (Xs m w NS) early (is.length+f) l a w
 |[],gs,l,l1,s,a,Q1,f,hg,ht,D,hE,R,H,K=>by
  simp only[List.mapM_nil,Option.pure_def,Option.some.injEq] at hg;simp only[zad,Option.some.injEq] at ht;subst hg;subst ht;rw[List.length_nil,Nat.zero_add];exact K s a H R
 |i::is,gs,l,l1,s,a,Q1,f,hg,ht,D,hE,R,H,K=>by
  obtain⟨o,g,gs',ho,hgo,rfl,hgs⟩:=zdv hg;simp only[zad] at ht;split at ht;rotate_left
  ·cases ht
  rename_i hc;simp only[Bool.and_eq_true] at hc;obtain⟨hfree,hready⟩:=hc;have hready:i∈Region.ready .any ops l:=by simpa using hready
  obtain⟨h1,h2,h3⟩:=H;rw[qB] at h3;obtain⟨out,hev,h3⟩:=h3;obtain⟨t1,t2,_⟩:=Y4 hgo;obtain⟨d,v,u,hd,hn,rfl,hv,hrun⟩:=zaP R t1 h2 hev;have hw:Region.wanted o (yielded ops a.tmps)=true:=by simp[Region.wanted,t2 h1]
  rw[List.length_cons,show is.length+1+f=(is.length+f)+1 by omega]
  suffices next:wpE cx.P ops Q (Xs m w NS) early (is.length+f) (l.setIfInBounds i true) (a.put o.dst u) w by
   cases hld:g.o.isLoad with
   |true=>exact zaW (T:=Xs m w NS) ho hs (fun c a w h=>(hQ c _ w h).elim) (fun l' h1 h2 j h3=> .inl ⟨hE i (by simp) o g ho hgo hld l' h1 h2 j h3,fun _=>Iff.rfl⟩) (is.length+f) l a w D (Region.free_spec ho hfree) hready (v:=u) (.inl ⟨hw,fun w' hw'=>hrun w' hw'⟩) (fun _ _ _ _ _ _=>rfl) next
   |false=>
    have h2':QM s [] g.o=true:=by
     revert h2 hld;generalize g.o=io;intro h2 hld
     cases io<;>first|rfl|(cases h2;done)|(cases hld;done)|exact h2
    obtain⟨d',v',u',hd',_,e',_,hrun'⟩:=zaP R t1 h2' hev;have hu:u'=u:=by
     have a1:=hrun' w (fun _ h=>by simp at h);have a2:=hrun w (fun _ _ _ _ _ _=>rfl);rw[a1] at a2;cases a2;rfl
    subst hu;exact zaW (T:=fun _=>True) ho hs (fun c a w h=>(hQ c _ w h).elim) (fun _ _ _ _ _=> .inr fun _=>trivial) (is.length+f) l a w D (Region.free_spec ho hfree) hready (v:=u') (.inl ⟨hw,fun w' _=>hrun' w' (fun _ h=>by simp at h)⟩) trivial next
  refine zkh hs hQ is gs' _ l1 (s.set d v) _ Q1 f hgs ht (D.step hready) (fun k hk=>hE k (by simp[hk])) ?_ h3 K;rw[hd];exact R.set hn hv
theorem zf2{m0:M}{w0:World}:∀(is:List Nat) (gs:List GOp) (l l1:Array Bool) (m1:M) (s:St) (a:Act) (w:World) (Q1:St→Prop) (f:Nat),
  is.mapM (fun i=>ops[i]?.bind (toG cx.P cx.n ops))=some gs→Xj ops is l=some l1→zt cx m1 s a w→(∀n,NS.contains n=true→∀g,m0.inf n=some g→m1.inf n=some g)→
  RT cx.P NS (gs.map fun g=>⟨g,0,[]⟩) s Q1→(∀m2 s2 a2 w2,Q1 s2→zt cx m2 s2 a2 w2→wpE cx.P ops Q (Xs m0 w0 NS) early f l1 a2 w2)→wpE cx.P ops Q (Xs m0 w0 NS) early (is.length+f) l a w
 |[],gs,l,l1,m1,s,a,w,Q1,f,hg,ht,R,hI,H,K=>by
  simp only[List.mapM_nil,Option.pure_def,Option.some.injEq] at hg;simp only[Xj,Option.some.injEq] at ht;subst hg;subst ht;rw[List.length_nil,Nat.zero_add];exact K m1 s a w H R
 |i::is,gs,l,l1,m1,s,a,w,Q1,f,hg,ht,R,hI,H,K=>by
  obtain⟨o,g,gs',ho,hgo,rfl,hgs⟩:=zdv hg;simp only[Xj] at ht;split at ht;rotate_left
  ·cases ht
  rename_i hri;have hri:Region.ready .any ops l=[i]:=by simpa using hri
  obtain⟨t1,t2,_⟩:=Y4 hgo;rw[List.length_cons,show is.length+1+f=(is.length+f)+1 by omega];refine⟨fun h0=>(by rw[h0] at hri;cases hri),fun j hj=> ?_⟩;rw[hri] at hj;simp only[List.mem_singleton] at hj;subst hj;rcases H with⟨h1,h2,h3⟩|⟨d,f',args,hge,h3⟩|⟨d,sz,zs,ps,hge,h3⟩
  ·rw[qB] at h3;obtain⟨out,hev,h3⟩:=h3;obtain⟨d,v,u,hd,hn,rfl,hv,hrun⟩:=zaP R t1 h2 hev;have hw:Region.wanted o (yielded ops a.tmps)=true:=by simp[Region.wanted,t2 h1]
   unfold wpOp;simp only[ho,hw,if_true];refine .inl (js (hrun w (fun _ h=>by simp at h)) ⟨fun _ h=>h,?_⟩);refine zf2 is gs' _ l1 m1 (s.set d v) _ w Q1 f hgs ht ?_ hI h3 K;rw[hd];exact R.set hn hv
  ·have hgg:g=⟨none,.callv d f' args⟩:=hge;subst hgg;have hw:Region.wanted o (yielded ops a.tmps)=true:=by simp[Region.wanted,t2 rfl]
   obtain⟨f0,xs,ts,hop,hdd,hf,hxs⟩:=zdt t1;unfold wpOp;simp only[ho,hw,if_true];refine .inl (zch R hop (zd hdd).1 (zd hdd).2 hf hxs h3 fun out hk m' a' w' R' hfar=> ?_);obtain⟨hN,hk⟩:=hk;have hN':∀n,NS.contains n=true→out.er.contains n=false∧(out.hp.map (·.1)).contains n=false:=fun n hn=>by
    have:=List.all_eq_true.1 hN n (by simpa using hn);simpa using this
   have hS':Xs m0 w0 NS w→Xs m0 w0 NS w':=fun hS n hn g b hg hb=>by
    have hg1:=hI n hn g hg;obtain⟨e1,e2⟩:=hN' n hn;obtain⟨_,hh⟩:=hfar n e1 e2 g hg1;have HN:=R.hp n;rw[hg1] at HN;obtain⟨k0,hk0⟩:=zT.some_blk HN;rw[hk0] at HN;unfold zT at HN;simp only[hb] at HN;obtain⟨_,ho2,cells,T,hcell,_⟩:=HN;rw[hh b hb ho2 (zH hcell)];exact hS n hn g b hg hb
   refine⟨fun _=>hS',zf2 is gs' _ l1 m' (s.app out) a' w' Q1 f hgs ht R' (fun n hn g hg=> ?_) hk K⟩;obtain⟨e1,e2⟩:=hN' n hn;exact(hfar n e1 e2 g<|hI n hn g hg).1
  ·have hgg:g=⟨none,.bslice d sz zs ps⟩:=hge;subst hgg;rw[qB] at h3;obtain⟨out,hev,h3⟩:=h3;have hw:Region.wanted o (yielded ops a.tmps)=true:=by simp[Region.wanted,t2 rfl]
   obtain⟨t,len,pp,e,z0,hop,ht0,hsz,h0,hbig,hz,hzl,rfl,hpp,hd,hn⟩:=zgv t1;unfold wpOp;simp only[ho,hw,if_true];refine .inl (zcN R hop ht0 hsz h0 hbig hz hzl hpp hd hn hev fun m' a' w' R' hinf hheap=> ?_);have hS':Xs m0 w0 NS w→Xs m0 w0 NS w':=fun hS n hn g b hg hb=>by
    have hg1:=hI n hn g hg;have HN:=R.hp n;rw[hg1] at HN;obtain⟨k0,hk0⟩:=zT.some_blk HN;rw[hk0] at HN;unfold zT at HN;simp only[hb] at HN;obtain⟨_,_,cells,T,hcell,_⟩:=HN;rw[hheap b _ hcell];exact hS n hn g b hg hb
   exact⟨fun _=>hS',zf2 is gs' _ l1 m' (s.app out) a' w' Q1 f hgs ht R' (fun n hn g hg=>hinf n g (hI n hn g hg)) h3 K⟩
theorem zdR{S:World→Prop}{L:List RO}(hs:Region.noSelect ops=true)(hQ:∀c a w,¬Q (.panic c) a w)(hG:∀(i:Nat) (r:RO) (o:Oper) (g:GOp),L[i]? =some r→ops[i]? =some o→toG cx.P cx.n ops o=some g→r.g=g):∀(is:List Nat) (gs:List GOp) (l l1:Array Bool) (m1:M) (s:St) (a:Act) (w:World) (Q1:St→Prop) (f:Nat),
  is.mapM (fun i=>ops[i]?.bind (toG cx.P cx.n ops))=some gs→zgI ops L is l=some l1→zbt ops l→(∀i∈is,early i=true→zaJ L i=true)→zt cx m1 s a w→
  RU cx.P (gs.map fun g=>⟨g,0,[]⟩) s Q1→(∀m2 s2 a2 w2,Q1 s2→zt cx m2 s2 a2 w2→wpE cx.P ops Q S early f l1 a2 w2)→wpE cx.P ops Q S early (is.length+f) l a w
 |[],gs,l,l1,m1,s,a,w,Q1,f,hg,ht,D,hE,R,H,K=>by
  simp only[List.mapM_nil,Option.pure_def,Option.some.injEq] at hg;simp only[zgI,Option.some.injEq] at ht;subst hg;subst ht;rw[List.length_nil,Nat.zero_add];exact K m1 s a w H R
 |i::is,gs,l,l1,m1,s,a,w,Q1,f,hg,ht,D,hE,R,H,K=>by
  obtain⟨o,g,gs',ho,hgo,rfl,hgs⟩:=zdv hg;simp only[zgI] at ht;split at ht;rotate_left
  ·cases ht
  rename_i hri;simp only[Bool.or_eq_true,Bool.and_eq_true,beq_iff_eq] at hri;obtain⟨t1,t2,_⟩:=Y4 hgo;have hei:=hE i (by simp);rw[List.length_cons,show is.length+1+f=(is.length+f)+1 by omega];have hmem:i∈Region.ready .any ops l:=by
   rcases hri with h|h
   ·rw[h];simp
   ·simpa using h.2
  rcases H with⟨h1,h2,h3⟩|⟨h2,H⟩
  ·rw[qB] at h3;obtain⟨out,hev,h3⟩:=h3;have hl:QM s [] g.o=true:=by
    revert h2;generalize g.o=io;intro h2
    cases io<;>first|rfl|cases h2
   obtain⟨d,v,u,hd,hn,rfl,hv,hrun⟩:=zaP R t1 hl hev;have hrun:∀w',(execOp a.eval o).run cx.P w'= .ok (.value u) w':=fun w'=>hrun w' (fun _ h=>by simp at h);have hw:Region.wanted o (yielded ops a.tmps)=true:=by simp[Region.wanted,t2 h1]
   have next:wpE cx.P ops Q S early (is.length+f) (l.setIfInBounds i true) (a.put o.dst u) w:=by
    refine zdR hs hQ hG is gs' _ l1 m1 (s.set d v) _ w Q1 f hgs ht (D.step hmem) (fun k hk=>hE k (by simp[hk])) ?_ h3 K;rw[hd];exact R.set hn hv
   rcases hri with hri|hri
   ·refine⟨fun h0=>(by rw[h0] at hri;cases hri),fun j hj=> ?_⟩;rw[hri] at hj;simp only[List.mem_singleton] at hj;subst hj;unfold wpOp;simp only[ho,hw,if_true];exact .inl (js (hrun w) ⟨fun _ h=>h,next⟩)
   ·exact zaW (T:=fun _=>True) ho hs (fun c a w h=>(hQ c _ w h).elim) (fun _ _ _ _ _=> .inr fun _=>trivial) (is.length+f) l a w D (Region.free_spec ho hri.1.2) hmem (v:=u) (.inl ⟨hw,fun w' _=>hrun w'⟩) trivial next
  ·have hnl:zaJ L i=true→False:=fun hL=>by
    unfold zaJ at hL;split at hL
    ·rename_i r hr;rw[hG i r o g hr ho hgo,h2] at hL;simp at hL
    ·cases hL
   have hri:Region.ready .any ops l=[i]:=by
    rcases hri with h|h
    ·exact h
    ·exfalso;have hL:=h.1.1;unfold zaJ at hL;split at hL
     ·rename_i r hr;rw[hG i r o g hr ho hgo,h2] at hL;simp at hL
     ·cases hL
   refine⟨fun h0=>(by rw[h0] at hri;cases hri),fun j hj=> ?_⟩;rw[hri] at hj;simp only[List.mem_singleton] at hj;subst hj;rcases H with H|⟨d,f',args,hge,h3⟩|⟨s1,hg1,hHS,h3⟩
   ·have:=x4 (Q:=Q) (ops:=ops) (K:=fun a' w'=>(early j=true→S w→S w')∧wpE cx.P ops Q S early (is.length+f) (l.setIfInBounds j true) a' w') R hgo H (fun out hk m' a' w' R'=>
     ⟨fun he=>(hnl<|hei he).elim,zdR hs hQ hG is gs' _ l1 m' (s.app out) a' w' Q1 f hgs ht (D.step hmem) (fun k hk=>hE k (by simp[hk])) R' hk K⟩)
    unfold wpOp;simp only[ho];split
    ·rename_i hw;rw[if_pos hw] at this;exact .inl this
    ·rename_i hw;rw[if_neg hw] at this;exact this
   ·have hgg:g=⟨none,.callv d f' args⟩:=hge;subst hgg;have hw:Region.wanted o (yielded ops a.tmps)=true:=by simp[Region.wanted,t2 rfl]
    obtain⟨f0,xs,ts,hop,hdd,hf,hxs⟩:=zdt t1;unfold wpOp;simp only[ho,hw,if_true];exact .inl (zeU R hop (zd hdd).1 (zd hdd).2 hf hxs h3 fun out hk m' a' w' R'=>
     ⟨fun he=>(hnl<|hei he).elim,zdR hs hQ hG is gs' _ l1 m' (s.app out) a' w' Q1 f hgs ht (D.step hmem) (fun k hk=>hE k (by simp[hk])) R' hk K⟩)
   ·have hw:Region.wanted o (yielded ops a.tmps)=true:=by simp[Region.wanted,t2 hg1]
    unfold wpOp;simp only[ho,hw,if_true];exact .inl (hHS cx m1 o a w _ Q t1 R fun m' a' w' R'=>
     ⟨fun he=>(hnl<|hei he).elim,zdR hs hQ hG is gs' _ l1 m' s1 a' w' Q1 f hgs ht (D.step hmem) (fun k hk=>hE k (by simp[hk])) R' h3 K⟩)
end
theorem ze2{L:List RO}{l:Array Bool}(hlen:ops.size=L.length)(hz:∀(q:Nat) (o:Oper) (r:RO),ops[q]? =some o→L[q]? =some r→r.dep=zcJ L o∧r.dep < 2 ^ q)(D:zbt ops l):
  ∀(n q:Nat),q < n→∀(o:Oper) (r:RO),ops[q]? =some o→L[q]? =some r→(∀e∈o.after,Region.binds .any e=true→l.getD e.on false=true)→∀p,r.dep.testBit p=true→l.getD p false=true
 |0,q,h,_,_,_,_,_,_,_=>by omega
 |n+1,q,h,o,r,ho,hr,hall,p,hp=>by
  obtain⟨e1,e2⟩:=hz q o r ho hr;rw[e1] at hp;obtain⟨e,he,hb,h'⟩:=Kz.1 hp;have hl:=hall e he hb;rcases h' with rfl|⟨r2,hr2,hp2⟩
  ·exact hl
  ·have hon:e.on < q:=by
    refine zbw e2 ?_;rw[e1];exact Kz.2 ⟨e,he,hb,.inl rfl⟩
   have hons:e.on < ops.size:=by rw[hlen];exact(List.getElem?_eq_some_iff.1 hr2).1
   have ho2:ops[e.on]? =some ops[e.on]:=by simp[hons]
   exact ze2 hlen hz D n e.on (by omega) _ r2 ho2 hr2 (fun e' he' hb'=>D e.on _ ho2 hl e' he' hb') p hp2
theorem Ku{P:Program}{n:Nat}{gs:List GOp}(hg:ops.toList.mapM (toG P n ops)=some gs):∀(is:List Nat),(∀i∈is,i < ops.size)→is.mapM (fun i=>ops[i]?.bind (toG P n ops))=some (zgC gs is)
 |[],_=>rfl
 |i::is,h=>by
  have hlt:=h i (by simp);obtain⟨g,h1,h2⟩:=YD hg i ops[i] (by simp[hlt]);simp only[List.mapM_cons,Option.pure_def,Option.bind_eq_bind];rw[show ops[i]? =some ops[i] by simp[hlt]];simp only[Option.bind_some,h1,Ku hg is (fun k hk=>h k (by simp[hk]))];unfold zgC;rw[List.filterMap_cons,h2]
theorem ze5{k:Nat}{L:List RO}:∀i∈Zw k L,i < L.length:=fun i hi=>by
 unfold Zw at hi;rw[List.mem_filter] at hi;exact List.mem_range.1 hi.1
theorem AW0.regp{P:Program}{n:Nat}{Q:Exit→St→Prop}{L M N:List RO}(NS:List Nat)(h:RP NS L s fun s1=>RT P NS M s1 fun s2=>RU P N s2 (Q .normal)):AW0 P n (.regp L M N) Q s:=fun cx code hh hh' a w hP hn ht R=>by
 obtain⟨id,ops,gs,L',r,rfl,hg,hL,hx⟩:=zcw (.inr<|.inr ⟨L,M,N,rfl⟩) ht;obtain⟨m,R⟩:=R;subst hP;subst hn;unfold zg7 at hx;split at hx;rotate_left
 ·split at hx
  ·split at hx<;>cases hx
  ·cases hx
 rename_i hc;simp only[Bool.and_eq_true,decide_eq_true_eq] at hc;obtain⟨⟨hp,_⟩,hm⟩:=hc;rw[Array.toArray_toList] at hp;simp only[Option.some.injEq,Prod.mk.injEq,IC.regp.injEq] at hx;obtain⟨⟨rfl,rfl,rfl⟩,_⟩:=hx;unfold zj6 at hp;simp only[Bool.and_eq_true,beq_iff_eq] at hp;obtain⟨⟨⟨⟨⟨hs,hlen⟩,hdep⟩,hnine⟩,hsum⟩,hord⟩:=hp;have hz:∀(q:Nat) (o:Oper) (r:RO),ops[q]? =some o→L'[q]? =some r→r.dep=zcJ L' o∧r.dep < 2 ^ q:=fun q o r ho hr=>by
  have hz:(ops.toList.zip L')[q]? =some (o,r):=by
   rw[List.getElem?_zip_eq_some];exact⟨by simpa using ho,hr⟩
  have:=Yu hdep hz;simpa using this
 have hlt:∀k,∀i∈Zw k L',i < ops.size:=fun k i hi=>by rw[hlen];exact ze5 i hi
 split at hord;rotate_left
 ·cases hord
 rename_i l3 hl3;have hord:Region.ready .any ops l3=[]:=by simpa using hord
 simp only[obi] at hl3;obtain⟨l2,⟨l1,hl1,hl2⟩,hl3⟩:=hl3
 let early:Nat→Bool:=fun j=>!(Zw 2000009 L').contains j||zaJ L' j
 let Qx:Exit→Act→World→Prop:=fun e a' w'=>∃s',Q e s'∧Rel cx s' a' w'
 have R1:zt cx m s a {w with drawn:=w.drawn+1}:=⟨R.size,R.defers,R.sl,R.hp,R.own,⟨R.fr.os,R.fr.tape,R.fr.output,R.fr.size,R.fr.kept⟩,R.gh⟩;refine wp_mono (Q:=noP Qx) (wp_region_any hm<|wpE.any (S:=Xs m {w with drawn:=w.drawn+1} NS) (early:=early) ?_) (fun e a' w' hq=>by
  cases e<;>first|exact hq|exact(hq:False).elim)
 have hD0:zbt ops (Array.replicate ops.size false):=fun q o ho hq=>by
  simp[Array.getElem?_replicate] at hq;split at hq<;>simp at hq
 have hE:∀i∈Zw 2000007 L',∀(o:Oper) (g:GOp),ops[i]? =some o→toG cx.P cx.n ops o=some g→g.o.isLoad=true→∀l',zbt ops l'→l'.getD i true=false→∀j∈Region.ready .any ops l',early j=true:=by
  intro i hi oi gi hoi hgi hld l' D hiu j hj;cases hej:early j with
  |true=>rfl
  |false=>
   exfalso;have hej':j∈Zw 2000009 L'∧zaJ L' j=false:=by simpa[early] using hej
   have hj9:=hej'.1;have hb:=List.all_eq_true.1 hnine j hj9;rw[hej'.2,Bool.false_or] at hb;have hb:=List.all_eq_true.1 hb i hi;obtain⟨ri,hri⟩:∃ri,L'[i]? =some ri:=⟨L'[i]'(ze5 i hi),List.getElem?_eq_getElem _⟩;have hrg:ri.g=gi:=by
    obtain⟨g',h1,h2⟩:=YD hg i oi (by simpa using hoi);rw[←hL,List.getElem?_map,hri] at h2;cases h2;rw[hgi] at h1;cases h1;rfl
   rw[hri] at hb;simp only[hrg,hld,Bool.not_true,Bool.false_or] at hb;split at hb;rotate_left
   ·cases hb
   rename_i rj hrj;obtain⟨_,oj,hoj,hall⟩:=mem_ready.1 hj;have hil:=ze2 hlen hz D (j+1) j (by omega) oj rj hoj hrj hall i hb;by_cases hlt:i < l'.size
   ·rw[ZX hlt true false,hil] at hiu;cases hiu
   ·rw[Array.getD_eq_getD_getElem?,Array.getElem?_eq_none (by omega)] at hil;cases hil
 have hfuel:(Zw 2000007 L').length+((Zw 2000008 L').length+(Zw 2000009 L').length)=ops.size:=by omega
 suffices key:wpE cx.P ops (noP Qx) (Xs m {w with drawn:=w.drawn+1} NS) early ((Zw 2000007 L').length+((Zw 2000008 L').length+(Zw 2000009 L').length)) (Array.replicate ops.size false) a {w with drawn:=w.drawn+1} by
  rw[hfuel] at key;exact key
 refine zkh hs (fun _ _ _ h=>h) _ _ _ l1 s a _ _ (Ku hg _<|hlt _) hl1 hD0 hE R1 h fun s1 a1 H1 R2=> ?_;have hD1:∀(is:List Nat) (l l':Array Bool),zbt ops l→zad ops is l=some l'→zbt ops l':=by
  intro is;induction is with
  |nil=>intro l l' D h;simp only[zad,Option.some.injEq] at h;subst h;exact D
  |cons i is ih=>
   intro l l' D h;simp only[zad] at h;split at h
   ·rename_i hc;simp only[Bool.and_eq_true] at hc;exact ih _ _ (D.step (by simpa using hc.2)) h
   ·cases h
 have hD2:∀(is:List Nat) (l l':Array Bool),zbt ops l→Xj ops is l=some l'→zbt ops l':=by
  intro is;induction is with
  |nil=>intro l l' D h;simp only[Xj,Option.some.injEq] at h;subst h;exact D
  |cons i is ih=>
   intro l l' D h;simp only[Xj] at h;split at h
   ·rename_i hc;have hc:Region.ready .any ops l=[i]:=by simpa using hc
    exact ih _ _ (D.step (by rw[hc];simp)) h
   ·cases h
 refine zf2 _ _ _ l2 m s1 a1 _ _ _ (Ku hg _<|hlt _) hl2 R2 (fun _ _ _ h=>h) H1 fun m2 s2 a2 w2 H2 R3=> ?_;have:=zdR (f:=0) (S:=Xs m {w with drawn:=w.drawn+1} NS) (early:=early) (Q:=noP Qx) (L:=L') hs (fun _ _ _ h=>h) (fun i r o g hr ho hgo=> ?_) _ _ _ l3 m2 s2 a2 w2 _ (Ku hg _<|hlt 2000009) hl3 (hD2 _ _ _ (hD1 _ _ _ hD0 hl1) hl2) (fun i hi he=>by simpa[early,hi] using he) R3 H2 (fun m3 s3 a3 w3 hq R4=>⟨hord,s3,hq,m3,R4⟩)
 ·exact this
 ·obtain⟨g',h1,h2⟩:=YD hg i o (by simpa using ho);rw[←hL,List.getElem?_map,hr] at h2;cases h2;rw[hgo] at h1;cases h1;rfl
end Go.AW
