/- The model's operations turned into the compact ones, and that each does in the model what the compact one says: lemmas of an own program logic; nothing is claimed here. Conditions: none. -/
import Derived.Test.YtpabbbmfcgnhdaaGreatE
set_option linter.unusedVariables false
namespace Go.AW
def zea:Value→Option C
 | .int k n=>some (.d<|.int k n)
 | .bool b=>some (.d<|.bool b)
 | .string s=>some (.d<|.str s)
 | .slice none 0 0=>some .zs
 | .pointer none=>some .nilp
 |_=>none
def zhN:Value→Option V
 | .agg cs=>(cs.toList.mapM zea).map .agg
 |v=>(zea v).map .one
def zJ:Operand→Option Opd
 | .tmp t=>some (.t t)
 | .const v=>(zhN v).map .c
 | .func f=>some (.c<|.one<|.fn f [])
 | .global _=>none
def KI:TypeDesc→Bool
 | .struct _| .array _ _=>true
 |_=>false
def szP(P:Program)(t:TypeId):Option Nat:=(P.info? t).map (·.size)
def zfQ(P:Program)(t:TypeId):Option (Option Nat):=(P.underlying t).bind fun d=>if KI d then(szP P t).map some else some none
def KP(P:Program)(t:TypeId):Option (List C):=(P.info? t).bind fun i=>i.zero.bind fun z=>z.cells.toList.mapM zea
def zaf:Value→Option D
 | .int k n=>some (.int k n)
 | .bool b=>some (.bool b)
 | .string s=>some (.str s)
 | .slice none 0 0=>some (.sl 0 [])
 |_=>none
variable {cx:Cx} {m:M} {s:St} {a:Act} {w:World} {o:Oper} {K:Act→World→Prop} {Q:Exit→Act→World→Prop}
theorem xo{h:Hp}{v:Value}{c:C}(H:zea v=some c):qE m h c v:=by
 unfold zea at H;split at H<;>simp only[Option.some.injEq,reduceCtorEq] at H<;>subst H
 ·exact⟨rfl,[],by simp[Rd],by simp⟩
 ·exact⟨rfl,[],by simp[Rd],by simp⟩
 ·exact⟨rfl,[],by simp[Rd],by simp⟩
 ·exact⟨rfl,none,rfl⟩
 ·exact⟨rfl,rfl⟩
theorem XV{α β:Type}{R:β→α→Prop}{f:α→Option β}(hf:∀a b,f a=some b→R b a):∀{as:List α} {bs:List β},as.mapM f=some bs→zl R bs as
 |[],bs,h=>by simp at h;subst h;trivial
 |a::as,bs,h=>by
  simp only[List.mapM_cons,Option.pure_def,Option.bind_eq_bind,obi] at h;obtain⟨b,hb,bs',hbs,he⟩:=h;cases he;exact⟨hf a b hb,XV hf hbs⟩
theorem zhw{h:Hp}{v:Value}{x:V}(H:zhN v=some x):qK m h x v:=by
 unfold zhN at H;split at H
 ·rename_i cs;simp only[omi] at H;obtain⟨ds,hd,rfl⟩:=H;exact⟨cs,rfl,XV (fun _ _=>xo) hd⟩
 ·simp only[omi] at H;obtain⟨c,hc,rfl⟩:=H;exact xo hc
theorem zt.opd(R:zt cx m s a w){x:Operand}{y:Opd}(H:zJ x=some y):qK m w.heap (s.ev y) (a.eval x):=by
 cases x with
 |tmp t=>simp[zJ] at H;subst H;exact R.sl t
 |const v=>
  simp only[zJ,omi] at H;obtain⟨u,hu,rfl⟩:=H;exact zhw hu
 |func f=>simp[zJ] at H;subst H;exact⟨rfl,#[],rfl,trivial⟩
 |global g=>simp[zJ] at H
theorem js{u:Value}{w':World}(h:(execOp a.eval o).run cx.P w= .ok (.value u) w')(hk:K (a.put o.dst u) w'):o.wp cx.P a w K Q:=by
 unfold Oper.wp;rw[h];exact hk
theorem zef{w':World}(h:(execOp a.eval o).run cx.P w= .ok .skip w')(hk:K (a.put o.dst undef) w'):o.wp cx.P a w K Q:=by
 unfold Oper.wp;rw[h];exact hk
theorem zp{P:Program}{t:TypeId}{d:TypeDesc}(h:P.underlying t=some d):(underlying t).run P w= .ok d w:=by
 simp[underlying,h]
theorem QB{P:Program}{t:TypeId}{d:TypeDesc}(h:P.underlying t=some d):(isAgg t).run P w= .ok (KI d) w:=by
 unfold isAgg;rw[Sem.run_bind,zp h];cases d<;>rfl
theorem qt{P:Program}{t:TypeId}{i:TypeInfo}(h:P.info? t=some i):(sizeOf t).run P w= .ok i.size w:=by
 simp[sizeOf,typeInfo,h]
theorem JU{P:Program}{t:TypeId}{i:TypeInfo}{z:Value}(h:P.info? t=some i)(hz:i.zero=some z):(zeroValue t).run P w= .ok z w:=by
 simp[zeroValue,typeInfo,h,hz]
theorem qC(R:zt cx m s a w){d:Nat}{v:V}{u:Value}(hd:o.dst=some d)(hn:d < cx.n)(hv:qK m w.heap v u)(h:(execOp a.eval o).run cx.P w= .ok (.value u) w)
  (hK:∀m' a' w',zt cx m' (s.app ⟨[],some (d,v),[]⟩) a' w'→K a' w'):o.wp cx.P a w K Q:=
 js h (hK m _ _ (by rw[hd];exact R.set hn hv))
theorem zg1(R:zt cx m s a w){d n:Nat}{v:V}{u:Value}{k:Blk}{f:NI}{cells:Array Value}{T:TypeId}(hd:o.dst=some d)(hn:d < cx.n)(hs:s.hp n=none)(hf:f.blk=some w.heap.size)
  (hl:f.cap * f.sz≤cells.size)
  (hB:Ext [] m w.heap (m.plus n f w.heap.size) (w.alloc<|.cells cells T).heap→zhQ (m.plus n f w.heap.size) (w.alloc<|.cells cells T).heap n f k cells.toList)
  (hv:qK (m.plus n f w.heap.size) (w.alloc<|.cells cells T).heap v u) (h:(execOp a.eval o).run cx.P w= .ok (.value u) (w.alloc<|.cells cells T))
  (hK:∀(m':M) (a':Act) (w':World),zt cx m' (s.app ⟨[],some (d,v),[(n,k)]⟩) a' w'→(∀(j:Nat) (g:NI),m.inf j=some g→m'.inf j=some g)→(∀(b:Nat) (x:Obj),w.heap[b]? =some x→w'.heap[b]? =w.heap[b]?)→K a' w'):o.wp cx.P a w K Q:=by
 have hmn:m.inf n=none:=by
  have:=R.hp n;rw[hs] at this;cases h:m.inf n with
  |none=>rfl
  |some f=>rw[h] at this;exact this.elim
 have E:Ext [] m w.heap (m.plus n f w.heap.size) (w.alloc<|.cells cells T).heap:=Ext.plus hmn (by simp) (fun c x hx=>Z8 hx);have R':=(R.new hs hf hl<|hB E).1;exact js h (hK _ _ _ (by rw[hd];exact R'.set hn hv) (fun j g hg=>by
  show(if j=n then some f else m.inf j)=some g;rw[if_neg (by intro e;subst e;rw[hmn] at hg;cases hg)];exact hg) (fun b x hx=>Z8 hx))
theorem zfT(R:zt cx m s a w){d n:Nat}{v:V}{u:Value}{k:Blk}{f:NI}{cells:Array Value}{T:TypeId}(hd:o.dst=some d)(hn:d < cx.n)(hs:s.hp n=none)(hf:f.blk=some w.heap.size)
  (hl:f.cap * f.sz≤cells.size)
  (hB:Ext [] m w.heap (m.plus n f w.heap.size) (w.alloc<|.cells cells T).heap→zhQ (m.plus n f w.heap.size) (w.alloc<|.cells cells T).heap n f k cells.toList)
  (hv:qK (m.plus n f w.heap.size) (w.alloc<|.cells cells T).heap v u) (h:(execOp a.eval o).run cx.P w= .ok (.value u) (w.alloc<|.cells cells T))
  (hK:∀m' a' w',zt cx m' (s.app ⟨[],some (d,v),[(n,k)]⟩) a' w'→K a' w'):o.wp cx.P a w K Q:=
 zg1 R hd hn hs hf hl hB hv h fun m' a' w' R' _ _=>hK m' a' w' R'
theorem zke(R:zt cx m s a w){d:Nat}{c x y:Operand}{c' x' y':Opd}{t:Bool}(ho:o.op= .pick c x y)(hd:o.dst=some d)(hn:d < cx.n)
  (hc:zJ c=some c') (hx:zJ x=some x') (hy:zJ y=some y') (ht:s.ev c'= .one (.d<|.bool t))
  (hK:∀m' a' w',zt cx m' (s.app ⟨[],some (d,if t then s.ev x' else s.ev y'),[]⟩) a' w'→K a' w'):o.wp cx.P a w K Q:=by
 have h1:=R.opd hc;rw[ht] at h1;obtain⟨_,bs,h1,_⟩:=h1;simp only[Rd] at h1;have hx2:=R.opd hx;have hy2:=R.opd hy;refine qC R hd hn (u:=if t then a.eval x else a.eval y) ?_ ?_ hK
 ·cases t
  ·exact hy2
  ·exact hx2
 ·simp only[execOp,ho,h1.1,asBool];simp
theorem zmy(R:zt cx m s a w){d:Nat}{e:TypeId}{zs:List C}(ho:o.op= .alloc e)(hd:o.dst=some d)(hn:d < cx.n)(hz:KP cx.P e=some zs)(hs:s.hp (d * 64)=none)
  (hK:∀m' a' w',zt cx m' (s.app ⟨[],some (d,.one<|.ptr<|.nm (d * 64) 0 0),[(d * 64,.vars zs.length zs)]⟩) a' w'→K a' w'):o.wp cx.P a w K Q:=by
 simp only[KP,obi] at hz;obtain⟨i,hi,z,hiz,hz⟩:=hz;have hrel:∀h:Hp,∀m:M,zl (qE m h) zs z.cells.toList:=fun h m=>XV (fun _ _=>xo) hz;have hlen:=(hrel #[] m).length;simp only[Array.length_toList] at hlen;refine zfT (k:= .vars zs.length zs) (v:= .one (.ptr<|.nm (d * 64) 0 0)) (f:=⟨some w.heap.size,zs.length,1⟩) (u:= .pointer (some ⟨w.heap.size,0,none⟩)) (cells:=z.cells) (T:=e) R hd hn hs O (by simp[hlen]) (fun _=>⟨rfl,hrel _ _⟩) ?_ ?_ hK
 ·exact⟨rfl,⟨some w.heap.size,zs.length,1⟩,w.heap.size,by simp[M.plus],rfl,by simp⟩
 ·simp only[execOp,ho,Instr.alloc,Sem.run_bind,JU hi hiz,Result.andThen_ok,newVar,newRow,newObj];rfl
theorem zmz(R:zt cx m s a w){d:Nat}{e:TypeId}{x:Operand}{x':Opd}{cs:List C}(ho:o.op= .box e x)(hd:o.dst=some d)(hn:d < cx.n)(hx:zJ x=some x')(hc:(s.ev x').cells=some cs)(hs:s.hp (d * 64)=none)
  (hK:∀m' a' w',zt cx m' (s.app ⟨[],some (d,.one<|.ptr<|.nm (d * 64) 0 0),[(d * 64,.vars cs.length cs)]⟩) a' w'→K a' w'):o.wp cx.P a w K Q:=by
 have hrel:=(R.opd hx).cells hc;have hlen:=hrel.length;simp only[Array.length_toList] at hlen;refine zfT (k:= .vars cs.length cs) (v:= .one (.ptr<|.nm (d * 64) 0 0)) (f:=⟨some w.heap.size,cs.length,1⟩) (u:= .pointer (some ⟨w.heap.size,0,none⟩)) (cells:=(a.eval x).cells) (T:=e) R hd hn hs O (by simp[hlen]) (fun E=>⟨rfl,?_⟩) ?_ ?_ hK
 ·exact zl.mono (fun c _ v=>E.c (QC c)) hrel
 ·exact⟨rfl,⟨some w.heap.size,cs.length,1⟩,w.heap.size,by simp[M.plus],rfl,by simp⟩
 ·simp only[execOp,ho,Instr.box,newVar,newRow,newObj];rfl
theorem XX(R:zt cx m s a w){n:Nat}{p:V}{u:Value}{cs:List C}(hp:qK m w.heap p u)(h:s.rd n p=some cs):
  ∃b off cells T fz,u= .pointer (some ⟨b,off,none⟩)∧w.heap[b]? =some (.cells cells T fz)∧cs.length=n∧zl (qE m w.heap) cs ((cells.toList.drop off).take n):=by
 unfold St.rd at h;split at h
 ·rename_i ds j;split at h<;>simp only[Option.some.injEq,reduceCtorEq] at h;rename_i hle;subst h;obtain⟨_,b,off,cells,T,fz,bs,rfl,hh,hr,hb,hbs⟩:=hp;refine⟨b,off+j,cells,T,fz,rfl,hh,by simp;omega,?_⟩;obtain⟨b',hr',hb'⟩:=RdL.extract hr j n;have:=Xz hr' (fun c hc=>hbs c (hb'.subset hc));have e:(((cells.toList.drop off).take ds.length).drop j).take n=(cells.toList.drop (off+j)).take n:=by
   rw[List.drop_take,List.take_take,List.drop_drop,Nat.min_eq_left (by omega)]
  rwa [e] at this
 ·rename_i k ds;split at h<;>simp only[Option.some.injEq,reduceCtorEq] at h;rename_i hle;subst h;obtain⟨_,f,hf,bs,hr,hbs⟩:=hp;simp only[Rd] at hr;obtain⟨b,off,cells,T,fz,bs',rfl,hh,rfl,_,hr⟩:=hr;refine⟨b,off,cells,T,fz,rfl,hh,by simp;omega,?_⟩;obtain⟨b',hr',hb'⟩:=RdL.extract hr 0 n;have:=zc0 hf hr' (fun c hc=>hbs c (List.mem_cons_of_mem _<|hb'.subset hc));simp only[List.drop_zero,List.take_take,Nat.min_eq_left hle] at this;exact this
 ·rename_i k i j;obtain⟨_,f,b,hf,hb,rfl⟩:=hp;have hN:=R.hp k;rw[hf] at hN;split at h
  ·rename_i sz ds hk;split at h<;>simp only[Option.some.injEq,reduceCtorEq] at h;rename_i hle;subst h;rw[hk] at hN;unfold zT at hN;simp only[hb] at hN;obtain⟨g1,g2,cells,T,g4,g5,g6,g7⟩:=hN;refine⟨b,i * f.sz+j,cells,T,_,rfl,g4,by simp;omega,?_⟩;rw[g6];exact zl.take _ (zl.drop _ g7)
  ·rename_i sz xs own cp hk;simp only[obi] at h;obtain⟨e,he,h⟩:=h;split at h<;>simp only[Option.some.injEq,reduceCtorEq] at h;rename_i hle;subst h;rw[hk] at hN;unfold zT at hN;simp only[hb] at hN;obtain⟨g1,g2,cells,T,g4,g5,g6,g7,bs,g8,g9,g10⟩:=hN;obtain⟨hsz,b',hr,hb'⟩:=RdLL.at g8 he;obtain⟨b'',hr',hb''⟩:=RdL.extract hr j n;refine⟨b,i * f.sz+j,cells,T,_,rfl,g4,by simp;omega,?_⟩;have:=zb6 (f:=f) hf hr' (fun e c hc=>(g9 e).2 c (hb'.subset<|hb''.subset hc)) (fun e c hc=>g10 e c (hb'.subset<|hb''.subset hc));have e2:(((cells.toList.drop (i * sz)).take sz).drop j).take n=(cells.toList.drop (i * f.sz+j)).take n:=by
    rw[List.drop_take,List.take_take,List.drop_drop,Nat.min_eq_left (by omega),g6]
   rwa [e2] at this
  ·cases h
  ·cases h
 ·cases h
theorem Qp(b off i:Nat):(⟨b,off,none⟩:Addr).add i=⟨b,off+i,none⟩:=by unfold Addr.add;split<;>simp_all
theorem QJ{P:Program}{b off n:Nat}{cells:Array Value}{T:TypeId}{fz:Nat×Nat}(h:w.heap[b]? =some (.cells cells T fz))(hl:((cells.toList.drop off).take n).length=n):
  (loadCells ⟨b,off,none⟩ n).run P w= .ok ((cells.toList.drop off).take n).toArray w:=by
 have:=run_loadCells_list (P:=P) w ⟨b,off,none⟩ ((cells.toList.drop off).take n) (fun j v hv=>by
  rw[Qp,cell_of_row w b (off+j) cells T fz h];have hj:j < n:=by
   have:=(List.getElem?_eq_some_iff.1 hv).1;omega
  rw[List.getElem?_take,if_pos hj,List.getElem?_drop] at hv;simpa using hv)
 rwa [hl] at this
theorem zkM(R:zt cx m s a w){d:Nat}{t:TypeId}{x:Operand}{x':Opd}{ag:Option Nat}(ho:o.op= .load t x)(hd:o.dst=some d)(hn:d < cx.n)(hx:zJ x=some x')(hag:zfQ cx.P t=some ag){out:Out}
  (he:ev s (.load d ag x')=some out) (hK:∀m' a' w',zt cx m' (s.app out) a' w'→K a' w'):o.wp cx.P a w K Q:=by
 have hp:=R.opd hx;simp only[zfQ,obi] at hag;obtain⟨td,htd,hag⟩:=hag;cases hA:KI td with
 |true=>
  rw[hA] at hag;simp only[if_true,omi,szP] at hag;obtain⟨n,⟨i,hi,hin⟩,rfl⟩:=hag;simp only[ev,omi] at he;obtain⟨cs,hcs,rfl⟩:=he;obtain⟨b,off,cells,T,fz,hu,hh,hl,hall⟩:=XX R hp hcs;have hlen:=hall.length;have hrun:=QJ (P:=cx.P) (off:=off) (n:=n) hh (by omega);refine qC (v:= .agg cs) R hd hn (u:= .agg ((cells.toList.drop off).take n).toArray) ⟨_,rfl,by simpa using hall⟩ ?_ hK;simp only[execOp,ho,hu,Instr.loadAt,Instr.sureAddr,loadVar,Sem.run_bind,Sem.run_pure,Result.andThen_ok,QB htd,hA,if_true,qt hi,hin,hrun]
 |false=>
  rw[hA] at hag;simp only[Bool.false_eq_true,if_false,Option.some.injEq] at hag;subst hag;simp only[ev,obi,omi] at he;obtain⟨cs,hcs,v,hv,rfl⟩:=he;obtain⟨b,off,cells,T,fz,hu,hh,hl,hall⟩:=XX R hp hcs
  match cs,hl with
  |[c],_=>
   simp only[kH,Bool.false_eq_true,if_false,Option.some.injEq] at hv;subst hv;obtain⟨u,hu1,hrel⟩:=hall.at (i:=0) (a:=c) rfl;refine qC (v:= .one c) R hd hn (u:=u) hrel ?_ hK;have hcell:w.cell? ⟨b,off,none⟩=some u:=by
    rw[cell_of_row w b off cells T fz hh];rw[List.getElem?_take,if_pos (by omega),List.getElem?_drop] at hu1;simpa using hu1
   simp only[execOp,ho,hu,Instr.loadAt,Instr.sureAddr,loadVar,Sem.run_bind,Sem.run_pure,Result.andThen_ok,QB htd,hA,Bool.false_eq_true,if_false,load,Sem.run,hcell]
theorem Kr{h:Hp}{own:Bool}:∀{zs:List D} {cs:List C} {ds:List D} {vs:List Value},xQ own zs cs=some ds→zl (qE m h) cs vs→
  ∃bs,RdL own h ds vs bs∧(own=true→bs=[])∧∀b∈bs,m.own b=none
 |zs,[],ds,vs,hm,H=>by
  simp[xQ] at hm;subst hm;cases vs with
  |nil=>exact⟨[],by simp[RdL],by simp,by simp⟩
  |cons _ _=>exact H.elim
 |zs,c::cs,ds,[],hm,H=>H.elim
 |zs,c::cs,ds,v::vs,hm,H=>by
  simp only[xQ,obi,omi] at hm;obtain⟨d,hd,ds',hds,he⟩:=hm;cases he;obtain⟨bs,hr,ho,hb⟩:=Kr hds H.2;obtain⟨hc1,hc2⟩:=H.1;unfold zhc at hd;split at hd
  ·rename_i x;split at hd<;>simp only[Option.some.injEq,reduceCtorEq] at hd;rename_i hx;subst hd;obtain⟨b1,h1,h2⟩:=hc2;have hcell:x.isCell=true:=by
    cases x with
    |agg cs=>simp only[Rd] at h1;obtain⟨vs,rfl,_⟩:=h1;simp[Value.oneCell'] at hc1
    |_=>rfl
   cases own with
   |false=>exact⟨b1++bs,by simp only[RdL];exact⟨v,vs,b1,bs,rfl,rfl,hcell,h1,hr⟩,by simp,fun b hb'=>(List.mem_append.1 hb').elim (h2 b) (hb b)⟩
   |true=>
    have hf:x.flat=true:=by simpa using hx
    have:=Zh hf h1;subst this;have h1':Rd true h x v []:=by cases x<;>simp[D.flat] at hf<;>simpa[Rd] using h1
    exact⟨bs,by simp only[RdL];exact⟨v,vs,[],bs,rfl,rfl,hcell,h1',hr⟩,ho,hb⟩
  ·cases hd;obtain⟨a,rfl⟩:=hc2;refine⟨bs,?_,ho,hb⟩;simp only[RdL];refine⟨_,vs,[],bs,rfl,rfl,rfl,?_,hr⟩;simp only[Rd];exact⟨a,0,rfl,.inl (by simp)⟩
  ·cases hd
theorem RdL.splice{o:Bool}{h:Hp}{e ds:List D}{us vs:List Value}{b1 b2:List Nat}(j:Nat)(H:RdL o h e us b1)(K:RdL o h ds vs b2):
  ∃p q,RdL o h (AW.splice e j ds) (AW.splice us j vs) (p++b2++q)∧(p++q).Sublist b1:=by
 obtain⟨c1,c2,rfl,h1,h2⟩:=H.split j;obtain⟨c3,c4,rfl,_,h4⟩:=h2.split ds.length;have hk:=K.length;refine⟨c1,c4,?_,List.Sublist.append (List.Sublist.refl _)<|List.sublist_append_right _ _⟩;unfold AW.splice;refine RdL.append (RdL.append h1 K) ?_;rw[hk];simpa[List.drop_drop] using h4
theorem RdLL.set{o:Bool}{h:Hp}{sz:Nat}{xs:List (List D)}{us:List Value}{bs:List Nat}(H:RdLL o h sz xs us bs){i:Nat}{x:List D}(hx:xs[i]? =some x):
  ∃p b1 q,bs=p++b1++q∧RdL o h x ((us.drop (i * sz)).take sz) b1∧∀e vs b2,e.length=sz→RdL o h e vs b2→
   RdLL o h sz (xs.set i e) (us.take (i * sz)++vs++us.drop ((i+1) * sz)) (p++b2++q):=by
 obtain⟨hi,hxe⟩:=List.getElem?_eq_some_iff.1 hx;obtain⟨c1,c2,rfl,h1,h2⟩:=H.split i;have hf:=H.fits;have hle:(i+1) * sz≤xs.length * sz:=Nat.mul_le_mul_right _ hi;have hle':i * sz+sz=(i+1) * sz:=by rw[Nat.succ_mul]
 rw[List.drop_eq_getElem_cons hi,hxe] at h2;simp only[RdLL] at h2;obtain⟨c3,c4,rfl,hl,h3,h4⟩:=h2;have htl:(us.take (i * sz)).length=i * sz:=by rw[List.length_take];omega
 have hxl:(xs.take i).length=i:=by rw[List.length_take];omega
 refine⟨c1,c3,c4,by simp,h3,fun e vs b2 he K=> ?_⟩;have hset:xs.set i e=xs.take i++e::xs.drop (i+1):=List.set_eq_take_append_cons_drop.trans (by rw[if_pos hi]);have hk:=K.length;rw[hset];have h1':RdLL o h sz (xs.take i) (us.take (i * sz)++vs++us.drop ((i+1) * sz)) c1:=by
  refine qu (fun j hj=> ?_) h1;rw[hxl] at hj;rw[List.append_assoc,List.getElem?_append_left (by omega),List.getElem?_take,if_pos hj]
 rw[List.append_assoc c1];refine RdLL.append h1' ?_;rw[hxl];simp only[RdLL];have hd:(us.take (i * sz)++vs++us.drop ((i+1) * sz)).drop (i * sz)=vs++us.drop ((i+1) * sz):=by
  rw[List.append_assoc,List.drop_left' htl]
 rw[hd];refine⟨b2,c4,rfl,he,?_,?_⟩
 ·rw[List.take_left' (by omega)];exact K
 ·rw[List.drop_left' (by omega)]
  rwa [List.drop_drop,hle'] at h4
theorem RdLL.store{o:Bool}{h:Hp}{sz:Nat}{xs:List (List D)}{us:List Value}{bs:List Nat}(H:RdLL o h sz xs us bs){i j:Nat}{x ds:List D}{vs:List Value}{b2:List Nat}(hx:xs[i]? =some x)
  (hj:j+ds.length≤x.length) (K:RdL o h ds vs b2):
  ∃p q,RdLL o h sz (xs.set i<|AW.splice x j ds) (AW.splice us (i * sz+j) vs) (p++b2++q)∧(p++q).Sublist bs:=by
 have hf:=H.fits;obtain⟨hi,_⟩:=List.getElem?_eq_some_iff.1 hx;obtain⟨hxl,_⟩:=RdLL.at H hx;obtain⟨p,b1,q,rfl,h1,h2⟩:=RdLL.set H hx;obtain⟨p',q',h3,h4⟩:=RdL.splice j h1 K;have hk:=K.length;have hle:(i+1) * sz≤xs.length * sz:=Nat.mul_le_mul_right _ hi;have hle':i * sz+sz=(i+1) * sz:=by rw[Nat.succ_mul]
 have h5:=h2 _ _ _ (by simp only[AW.splice,List.length_append,List.length_take,List.length_drop];omega) h3;refine⟨p++p',q'++q,?_,?_⟩
 ·have e1:us.take (i * sz)++AW.splice ((us.drop (i * sz)).take sz) j vs++us.drop ((i+1) * sz)=AW.splice us (i * sz+j) vs:=by
   unfold AW.splice;have a1:us.take (i * sz+j)=us.take (i * sz)++(us.drop (i * sz)).take j:=List.take_add;have a2:((us.drop (i * sz)).take sz).take j=(us.drop (i * sz)).take j:=by rw[List.take_take,Nat.min_eq_left (by omega)]
   have a3:((us.drop (i * sz)).take sz).drop (j+vs.length)++us.drop ((i+1) * sz)=us.drop (i * sz+j+vs.length):=by
    rw[List.drop_take,List.drop_drop,←hle'];have:us.drop (i * sz+sz)=(us.drop (i * sz+(j+vs.length))).drop (sz - (j+vs.length)):=by
     rw[List.drop_drop];congr 1;omega
    rw[this,List.take_append_drop,Nat.add_assoc]
   rw[a1,a2];simp only[List.append_assoc,a3]
  rw[e1] at h5;simpa[List.append_assoc] using h5
 ·have:=List.Sublist.append (List.Sublist.append (List.Sublist.refl p) h4) (List.Sublist.refl q);simpa[List.append_assoc] using this
end Go.AW
