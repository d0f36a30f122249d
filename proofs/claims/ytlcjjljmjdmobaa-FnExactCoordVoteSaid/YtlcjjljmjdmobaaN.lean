/- The model's operations turned into the compact ones: each does what the compact one says. Lemmas. Conditions: none. -/
import Derived.Test.YtlcjjljmjdmobaaLb
set_option linter.unusedVariables false
namespace Go.AW
def jF(n:Nat)(o:Oper):Option Nat:=o.dst.bind fun d=>if d < n then some d else none
def x9:Option Operand→Option (Option Opd)
 |none=>some none
 |some x=>(zI x).map some
def QN(P:Program)(t:TypeId):Option TypeId:=match P.underlying t with
 |some (.slice e)=>some e
 |_=>none
def fieldsOf(P:Program)(t:TypeId):Option (Array Field):=match P.underlying t with
 |some (.struct fs)=>some fs
 |_=>none
def zar(P:Program)(t:TypeId):Option IntKind:=match P.underlying t with
 |some (.int k)=>some k
 |_=>none
def zbu(P:Program)(t:TypeId):Option Bool:=match P.underlying t with
 |some .string=>some true
 |some (.slice _)=>some false
 |_=>none
def zbq(P:Program)(t:TypeId):Bool:=match P.underlying t with
 |some .bool=>true
 |_=>false
def XH(P:Program):Nat→TypeId→List D
 |0,_=>[]
 |n+1,t=>match P.underlying t with
  |some (.int k)=>[.int k 0]
  |some .bool=>[.bool false]
  |some .string=>[.str ByteArray.empty]
  |some (.slice e)=>[.sl ((szP P e).getD 0) []]
  |some (.struct fs)=>fs.toList.flatMap fun f=>XH P n f.type
  |_=>[.ptr []]
def zcv:Operand→Bool
 | .const (.slice none 0 0)=>true
 |_=>false
def zdP(P:Program)(t:TypeId):Bool:=match P.underlying t with
 |some (.struct fs)=>KK P fs.toList 0&&!P.stoodInHeld t&&!P.eqGuardType P.depth t
 |_=>false
def zmq:Fn→Option FuncId
 | .func f=>some f
 |_=>none
def zcd{α:Type}:List α→Option α
 |[x]=>some x
 |_=>none
def Ky{α:Type}:List α→Option (α×α)
 |[x,y]=>some (x,y)
 |_=>none
def yC(P:Program)(n:Nat)(o:Oper)(c:Call):Option IOp:=
 match c.callee with
 | .builtin .len=>(zcd c.args.toList).bind fun x=>(jF n o).bind fun d=>c.argTypes[0]?.bind fun t=>(zbu P t).bind fun st=>(zI x).map (.len d st)
 | .builtin .append=>(Ky c.args.toList).bind fun xy=>(Ky c.argTypes.toList).bind fun tu=>if tu.1=tu.2 then(jF n o).bind fun d=>(QN P tu.1).bind fun e=>(P.info? e).bind fun i=>i.zero.bind fun z=>
   if z.cells.size=i.size then(zI xy.1).bind fun x=>(zI xy.2).map (.app d i.size i.bytes (XH P 8 e) x) else none else(zar P tu.2).bind fun _=>(jF n o).bind fun d=>(QN P tu.1).bind fun e=>(P.info? e).bind fun i=>i.zero.bind fun z=>(z.cells.toList.mapM Y7).bind fun zs=>
   if zs.length=i.size∧i.size≠0 then(zI xy.1).bind fun x=>(zI xy.2).map (.apm d i.size i.bytes (Zj zs (XH P 8 e)) x) else none
 | .builtin .max=>(Ky c.args.toList).bind fun xy=>(jF n o).bind fun d=>(zI xy.1).bind fun x=>(zI xy.2).map (.mm d true x)
 | .builtin .min=>(Ky c.args.toList).bind fun xy=>(jF n o).bind fun d=>(zI xy.1).bind fun x=>(zI xy.2).map (.mm d false x)
 | .builtin .clear=>(zcd c.args.toList).bind fun x=>c.argTypes[0]?.bind fun t=>(QN P t).bind fun e=>(P.info? e).bind fun i=>i.zero.bind fun z=>(z.cells.toList.mapM Y7).bind fun zs=>
   if zs.length=i.size∧i.size≠0∧o.dst=none then(zI x).map (.clear i.size (Zj zs (XH P 8 e))) else none
 | .builtin .cap=>(zcd c.args.toList).bind fun x=>c.argTypes[0]?.bind fun t=>(jF n o).bind fun d=>(QN P t).bind fun _=>(zI x).map (.cap d)
 | .builtin .copy=>(Ky c.args.toList).bind fun xy=>c.argTypes[0]?.bind fun t=>(jF n o).bind fun d=>(QN P t).bind fun e=>(P.info? e).bind fun i=>(zI xy.1).bind fun x=>(zI xy.2).map (.copy d i.size x)
 | .value f=>(jF n o).bind fun d=>(zI f).bind fun f=>(c.args.toList.mapM zI).map (.callv d f)
 |_=>none
def zgp(o:Oper):Option Unit:=if o.dst=none then some () else none
def JX(P:Program)(n:Nat)(o:Oper):Option IOp:=
 match o.op with
 | .move x=>(jF n o).bind fun d=>(zI x).map (.mov d)
 | .assign x=>(jF n o).bind fun d=>(zI x).map (.mov d)
 | .pick c x y=>(jF n o).bind fun d=>(zI c).bind fun c=>(zI x).bind fun x=>(zI y).map (.pick d c x)
 | .alloc e=>(jF n o).bind fun d=>(Xf P e).map (.var d)
 | .box _ x=>(jF n o).bind fun d=>(zI x).map (.box d)
 | .build t ps=>(jF n o).bind fun d=>(fieldsOf P t).bind fun fs=>if fs.toList.all (fun f=>(szP P f.type).isSome) then(Xf P t).bind fun zs=>(Yy (Yx P fs) ps.toList).map (.build d zs) else none
 | .buildSlice t len ps=>(jF n o).bind fun d=>(QN P t).bind fun e=>(szP P e).bind fun sz=>(Xf P e).bind fun zs=>
   if 0 < sz∧len * sz≤1024∧zs.length=sz then(Yy (fun i=>some (i * sz,sz)) ps.toList).map (.bslice d sz (List.replicate len zs).flatten) else none
 | .load t x=>(jF n o).bind fun d=>(zaG P t).bind fun ag=>(zI x).map (.load d ag)
 | .store t x v=>if o.dst=none then(szP P t).bind fun k=>(zI x).bind fun x=>(zI v).map (.store k (XH P 8 t) x) else none
 | .nilCheck x=>(jF n o).bind fun d=>(zI x).map (.nilchk d)
 | .binOp op t x y _=>(jF n o).bind fun d=>(zI x).bind fun x'=>if zcv y&&(QN P t).isSome then(match op with| .eql=>some (.isnil d false x')| .neq=>some (.isnil d true x')|_=>none) else(zI y).bind fun y=>let x:=x'
   if zdP P t then(match op with| .eql=>(fieldsOf P t).map fun fs=> .seql d false fs.size x y| .neq=>(fieldsOf P t).map fun fs=> .seql d true fs.size x y|_=>none) else
   if zbq P t then(match op with| .eql=>some (.beq d false x y)| .neq=>some (.beq d true x y)|_=>none) else some (.bin d op x y)
 | .unOp .not _ x=>(jF n o).bind fun d=>(zI x).map (.inv d)
 | .convert src dst x=>(jF n o).bind fun d=>(zar P src).bind fun _=>(zar P dst).bind fun k=>(zI x).map (.conv d k)
 | .makeFunc fn first caps=>(jF n o).bind fun d=>(zmq fn).bind fun f=>if first.toList=[] then(caps.toList.mapM zI).map (.mkfn d f) else none
 | .makeSlice t l c=>(jF n o).bind fun d=>(QN P t).bind fun e=>(P.info? e).bind fun i=>i.zero.bind fun z=>(z.cells.toList.mapM Y7).bind fun zs=>
   if zs.length=i.size∧i.size≠0 then(zI l).bind fun l=>(zI c).map (.mksl d i.size i.bytes (Zj zs (XH P 8 e)) l) else none
 | .slice t x lo hi mx=>(jF n o).bind fun d=>(QN P t).bind fun e=>(szP P e).bind fun sz=>(zI x).bind fun x=>(x9 lo).bind fun lo=>(x9 hi).bind fun hi=>(x9 mx).bind fun mx=>
   if mx.isSome→hi.isSome then some (.slice d sz x lo hi mx) else none
 | .fieldAddr t x fi=>(jF n o).bind fun d=>(fieldsOf P t).bind fun fs=>fs[fi]?.bind fun f=>(szP P f.type).bind fun k=>if k=0 then none else(zI x).map (.faddr d f.offset)
 | .field t x fi=>(jF n o).bind fun d=>(fieldsOf P t).bind fun fs=>fs[fi]?.bind fun f=>(zaG P f.type).bind fun ag=>(zI x).map (.field d f.offset ag)
 | .indexAddr t x i=>(jF n o).bind fun d=>(QN P t).bind fun e=>(szP P e).bind fun sz=>(zI x).bind fun x=>(zI i).map (.iaddr d sz x)
 | .extract x i=>(jF n o).bind fun d=>(zI x).map fun x=> .ext d x i
 | .index t x i=>(jF n o).bind fun d=>(zbu P t).bind fun st=>if st then(zI x).bind fun x=>(zI i).map (.sidx d x) else none
 | .makeInterface _ _=>(jF n o).bind fun d=>some (.dead (some d))
 | .panic _=>(zgp o).bind fun _=>some (.dead none)
 | .call c=>yC P n o c
 |_=>none
theorem zk{n d:Nat}{o:Oper}(h:jF n o=some d):o.dst=some d∧d < n:=by
 unfold jF at h
 cases ho:o.dst with
 |none=>rw[ho] at h;cases h
 |some k=>
  rw[ho] at h
  simp only[Option.bind_some] at h
  split at h
  ·rename_i hk
   cases h
   exact⟨rfl,hk⟩
  ·cases h
theorem qR{P:Program}{t e:TypeId}(h:QN P t=some e):P.underlying t=some (.slice e):=by
 unfold QN at h;split at h<;>simp_all
theorem JO{P:Program}{t:TypeId}{fs:Array Field}(h:fieldsOf P t=some fs):P.underlying t=some (.struct fs):=by
 unfold fieldsOf at h;split at h<;>simp_all
theorem kL{P:Program}{t:TypeId}{k:IntKind}(h:zar P t=some k):P.underlying t=some (.int k):=by
 unfold zar at h;split at h<;>simp_all
theorem kZ{P:Program}{t:TypeId}(h:zbq P t=true):P.underlying t=some .bool:=by
 unfold zbq at h;split at h<;>simp_all
theorem Y1{x:Option Operand}{y:Option Opd}(h:x9 x=some y):zai x y:=by
 cases x with
 |none=>simp[x9] at h;subst h;trivial
 |some x=>simp only[x9,omi] at h;obtain⟨z,hz,rfl⟩:=h;exact hz
theorem kJ{α:Type}{xs:Array α}{x:α}(h:zcd xs.toList=some x):xs=#[x]:=by
 unfold zcd at h
 split at h
 ·rename_i y e
  cases h
  exact Array.toList_inj.1 (by simpa using e)
 ·cases h
theorem yw{α:Type}{xs:Array α}{p:α×α}(h:Ky xs.toList=some p):xs=#[p.1,p.2]:=by
 unfold Ky at h
 split at h
 ·rename_i x y e
  cases h
  exact Array.toList_inj.1 (by simpa using e)
 ·cases h
variable {cx:Cx} {m:M} {s:St} {a:Act} {w:World} {o:Oper} {K:Act→World→Prop} {Q:Exit→Act→World→Prop}
theorem zcM(R:zy cx m s a w){io:IOp}{c:Call}(hop:o.op= .call c)(h:yC cx.P cx.n o c=some io){out:Out}(he:ev s io=some out)(hK:∀m' a' w',zy cx m' (s.app out) a' w'→K a' w'):o.wp cx.P a w K Q:=by
 obtain⟨callee,args,ts⟩:=c
 unfold yC at h
 simp only at h
 split at h
 ·simp only[obi,omi] at h
  obtain⟨x,hx0,d,hd,t,ht,st,hst,x',hx,rfl⟩:=h
  have hst':∃e,cx.P.underlying t=some (if st then .string else .slice e):=by
   unfold zbu at hst
   split at hst
   ·rename_i hu;cases hst;exact⟨0,by simpa using hu⟩
   ·rename_i e hu;cases hst;exact⟨e,by simpa using hu⟩
   ·cases hst
  obtain⟨e,hu⟩:=hst'
  have:=kJ hx0
  subst this
  exact zfX R hop ht hu (zk hd).1 (zk hd).2 hx he hK
 ·simp only[obi] at h
  obtain⟨xy,hxy,tu,htu,h⟩:=h
  split at h
  rotate_left
  ·simp only[obi] at h
   obtain⟨kn,hkn,d,hd,e,he',i,hi,z,hz,zs,hzs,h⟩:=h
   split at h
   rotate_left
   ·cases h
   rename_i hc
   simp only[obi,omi] at h
   obtain⟨x',hx,y',hy,rfl⟩:=h
   have h1:=yw hxy
   have h2:=yw htu
   subst h1
   subst h2
   exact zgk R hop (qR he') (kL hkn) hi hz rfl hc.2 ⟨zs,_,hzs,rfl⟩ (by rw[JF];exact hc.1) rfl (zk hd).1 (zk hd).2 hx hy he hK
  rename_i heq
  simp only[obi] at h
  obtain⟨d,hd,e,he',i,hi,z,hz,h⟩:=h
  split at h
  rotate_left
  ·cases h
  rename_i hzs
  simp only[obi,omi] at h
  obtain⟨x',hx,y',hy,rfl⟩:=h
  have h1:=yw hxy
  have h2:=yw htu
  subst h1
  subst h2
  rw[←heq] at hop
  exact zfL R hop (qR he') hi hz rfl hzs rfl (zk hd).1 (zk hd).2 hx hy he hK
 ·simp only[obi,omi] at h
  obtain⟨xy,hxy,d,hd,x',hx,y',hy,rfl⟩:=h
  have h1:=yw hxy
  subst h1
  exact zfq (mx:=true) R hop (zk hd).1 (zk hd).2 hx hy he hK
 ·simp only[obi,omi] at h
  obtain⟨xy,hxy,d,hd,x',hx,y',hy,rfl⟩:=h
  have h1:=yw hxy
  subst h1
  exact zfq (mx:=false) R hop (zk hd).1 (zk hd).2 hx hy he hK
 ·simp only[obi] at h
  obtain⟨x,hx0,t,ht,e,he',i,hi,z,hz,zs,hzs,h⟩:=h
  split at h
  rotate_left
  ·cases h
  rename_i hc
  simp only[omi] at h
  obtain⟨x',hx,rfl⟩:=h
  have:=kJ hx0
  subst this
  exact zeH R hop ht (qR he') hi hz rfl ⟨zs,_,hzs,rfl⟩ (by rw[JF];exact hc.1) hc.2.1 hc.2.2 hx he hK
 ·simp only[obi,omi] at h
  obtain⟨x,hx0,t,ht,d,hd,e,he',x',hx,rfl⟩:=h
  have:=kJ hx0
  subst this
  exact zfN R hop ht (qR he') (zk hd).1 (zk hd).2 hx he hK
 ·simp only[obi,omi] at h
  obtain⟨xy,hxy,t,ht,d,hd,e,he',i,hi,x',hx,y',hy,rfl⟩:=h
  have h1:=yw hxy
  subst h1
  exact zfi R hop ht (qR he') hi rfl (zk hd).1 (zk hd).2 hx hy he hK
 ·simp only[obi,omi] at h
  obtain⟨d,hd,f',hf,xs',hxs,rfl⟩:=h
  simp[ev] at he
 ·cases h
theorem zfc(R:zy cx m s a w){io:IOp}(h:JX cx.P cx.n o=some io){out:Out}(he:ev s io=some out)(hK:∀m' a' w',zy cx m' (s.app out) a' w'→K a' w'):o.wp cx.P a w K Q:=by
 unfold JX at h
 split at h
 ·rename_i x hop
  simp only[obi,omi] at h
  obtain⟨d,hd,x',hx,rfl⟩:=h
  exact zdS R (.inl hop) (zk hd).1 (zk hd).2 hx he hK
 ·rename_i x hop
  simp only[obi,omi] at h
  obtain⟨d,hd,x',hx,rfl⟩:=h
  exact zdS R (.inr hop) (zk hd).1 (zk hd).2 hx he hK
 ·rename_i c x y hop
  simp only[obi,omi] at h
  obtain⟨d,hd,c',hc,x',hx,y',hy,rfl⟩:=h
  simp only[ev] at he
  split at he
  ·rename_i t ht
   simp only[Option.some.injEq] at he
   subst he
   exact zfd R hop (zk hd).1 (zk hd).2 hc hx hy ht hK
  ·cases he
 ·rename_i e hop
  simp only[obi,omi] at h
  obtain⟨d,hd,zs,hz,rfl⟩:=h
  simp only[ev] at he
  split at he
  ·rename_i hs
   simp only[Option.some.injEq] at he
   subst he
   exact zgd R hop (zk hd).1 (zk hd).2 hz hs hK
  ·cases he
 ·rename_i e x hop
  simp only[obi,omi] at h
  obtain⟨d,hd,x',hx,rfl⟩:=h
  simp only[ev] at he
  split at he
  ·rename_i hs
   simp only[omi] at he
   obtain⟨cs,hcs,rfl⟩:=he
   exact zf6 R hop (zk hd).1 (zk hd).2 hx hcs hs hK
  ·cases he
 ·rename_i t ps hop
  simp only[obi] at h
  obtain⟨d,hd,fs,hfs,h⟩:=h
  split at h
  rotate_left
  ·cases h
  rename_i hall
  simp only[obi,omi] at h
  obtain⟨zs,hz,qs,hqs,rfl⟩:=h
  exact zd1 R hop (JO hfs) hz hall hqs (zk hd).1 (zk hd).2 he hK
 ·rename_i t len ps hop
  simp only[obi] at h
  obtain⟨d,hd,e,he',sz,hsz,zs,hz,h⟩:=h
  split at h
  rotate_left
  ·cases h
  rename_i hc
  simp only[omi] at h
  obtain⟨qs,hqs,rfl⟩:=h
  exact zcR R hop (qR he') hsz hc.1 hc.2.1 hz hc.2.2 hqs (zk hd).1 (zk hd).2 he hK
 ·rename_i t x hop
  simp only[obi,omi] at h
  obtain⟨d,hd,ag,hag,x',hx,rfl⟩:=h
  exact zeW R hop (zk hd).1 (zk hd).2 hx hag he hK
 ·rename_i t x v hop
  split at h
  rotate_left
  ·cases h
  rename_i hd
  simp only[obi,omi] at h
  obtain⟨k,hk,x',hx,v',hv,rfl⟩:=h
  exact zej R hop hd hx hv hk he hK
 ·rename_i x hop
  simp only[obi,omi] at h
  obtain⟨d,hd,x',hx,rfl⟩:=h
  exact zcV R hop (zk hd).1 (zk hd).2 hx he hK
 ·rename_i op t x y u hop
  simp only[obi] at h
  obtain⟨d,hd,x',hx,h⟩:=h
  split at h
  ·rename_i hnil
   simp only[Bool.and_eq_true] at hnil
   have hy:y= .const (.slice none 0 0):=by
    have:=hnil.1
    unfold zcv at this
    split at this
    ·rfl
    ·cases this
   obtain⟨e,he'⟩:=Option.isSome_iff_exists.1 hnil.2
   rw[hy] at hop
   split at h
   ·cases h
    exact zbi (neg:=false) R hop rfl (qR he') (zk hd).1 (zk hd).2 hx he hK
   ·cases h
    exact zbi (neg:=true) R hop rfl (qR he') (zk hd).1 (zk hd).2 hx he hK
   ·cases h
  simp only[obi] at h
  obtain⟨y',hy,h⟩:=h
  split at h
  ·rename_i hfl
   unfold zdP at hfl
   split at hfl
   rotate_left
   ·cases hfl
   rename_i fs hfs
   simp only[Bool.and_eq_true,Bool.not_eq_true'] at hfl
   have hfo:fieldsOf cx.P t=some fs:=by unfold fieldsOf;rw[hfs]
   split at h
   ·rw[hfo] at h
    cases h
    exact zcn (neg:=false) R hop rfl hfs hfl.1.1 (by simp) hfl.1.2 hfl.2 (zk hd).1 (zk hd).2 hx hy he hK
   ·rw[hfo] at h
    cases h
    exact zcn (neg:=true) R hop rfl hfs hfl.1.1 (by simp) hfl.1.2 hfl.2 (zk hd).1 (zk hd).2 hx hy he hK
   ·cases h
  split at h
  ·rename_i hb
   split at h
   ·cases h
    exact zdD (neg:=false) R hop rfl (kZ hb) (zk hd).1 (zk hd).2 hx hy he hK
   ·cases h
    exact zdD (neg:=true) R hop rfl (kZ hb) (zk hd).1 (zk hd).2 hx hy he hK
   ·cases h
  ·cases h
   exact zf7 R hop (zk hd).1 (zk hd).2 hx hy he hK
 ·rename_i t x hop
  simp only[obi,omi] at h
  obtain⟨d,hd,x',hx,rfl⟩:=h
  exact zf0 R hop (zk hd).1 (zk hd).2 hx he hK
 ·rename_i src dst x hop
  simp only[obi,omi] at h
  obtain⟨d,hd,k0,hk0,k,hk,x',hx,rfl⟩:=h
  exact zfD R hop (kL hk0) (kL hk) (zk hd).1 (zk hd).2 hx he hK
 ·rename_i fn first caps hop
  simp only[obi] at h
  obtain⟨d,hd,f,hf,h⟩:=h
  split at h
  rotate_left
  ·cases h
  rename_i hfirst
  simp only[omi] at h
  obtain⟨cs,hcs,rfl⟩:=h
  have hop:o.op= .makeFunc (.func f) #[] caps:=by
   rw[hop]
   have:first=#[]:=Array.toList_inj.1 (by simpa using hfirst)
   subst this
   unfold zmq at hf
   split at hf<;>simp_all
  exact ze2 R hop (zk hd).1 (zk hd).2 hcs he hK
 ·rename_i t l c hop
  simp only[obi] at h
  obtain⟨d,hd,e,he',i,hi,z,hz,zs,hzs,h⟩:=h
  split at h
  rotate_left
  ·cases h
  rename_i hc
  simp only[obi,omi] at h
  obtain⟨l',hl,c',hcc,rfl⟩:=h
  exact zfz R hop (qR he') hi hz rfl ⟨zs,_,hzs,rfl⟩ (by rw[JF];exact hc.1) hc.2 rfl (zk hd).1 (zk hd).2 hl hcc he hK
 ·rename_i t x lo hi mx hop
  simp only[obi] at h
  obtain⟨d,hd,e,he',sz,hsz,x',hx,lo',hlo,hi',hhi,mx',hmx,h⟩:=h
  split at h
  rotate_left
  ·cases h
  rename_i hc
  cases h
  exact zeq R hop (qR he') hsz (zk hd).1 (zk hd).2 hx (Y1 hlo) (Y1 hhi) (Y1 hmx) hc he hK
 ·rename_i t x fi hop
  simp only[obi] at h
  obtain⟨d,hd,fs,hfs,f,hf,k,hk,h⟩:=h
  split at h
  ·cases h
  rename_i h0
  simp only[omi] at h
  obtain⟨x',hx,rfl⟩:=h
  exact zez R hop (JO hfs) hf hk h0 (zk hd).1 (zk hd).2 hx he hK
 ·rename_i t x fi hop
  simp only[obi,omi] at h
  obtain⟨d,hd,fs,hfs,f,hf,ag,hag,x',hx,rfl⟩:=h
  exact zet R hop (JO hfs) hf hag (zk hd).1 (zk hd).2 hx he hK
 ·rename_i t x i hop
  simp only[obi,omi] at h
  obtain⟨d,hd,e,he',sz,hsz,x',hx,i',hi,rfl⟩:=h
  exact zer R hop (qR he') hsz (zk hd).1 (zk hd).2 hx hi he hK
 ·rename_i x i hop
  simp only[obi,omi] at h
  obtain⟨d,hd,x',hx,rfl⟩:=h
  exact zf5 R hop (zk hd).1 (zk hd).2 hx he hK
 ·rename_i t x i hop
  simp only[obi] at h
  obtain⟨d,hd,st,hst,h⟩:=h
  split at h
  rotate_left
  ·cases h
  rename_i hs
  subst hs
  simp only[obi,omi] at h
  obtain⟨x',hx,i',hi,rfl⟩:=h
  exact zfy R hop (by unfold zbu at hst;split at hst<;>simp_all) (zk hd).1 (zk hd).2 hx hi he hK
 ·rw[obi] at h
  obtain⟨_,_,h⟩:=h
  cases h
  cases he
 ·rw[obi] at h
  obtain⟨_,_,h⟩:=h
  cases h
  cases he
 ·rename_i c hop
  exact zcM R hop h he hK
 ·cases h
end Go.AW
