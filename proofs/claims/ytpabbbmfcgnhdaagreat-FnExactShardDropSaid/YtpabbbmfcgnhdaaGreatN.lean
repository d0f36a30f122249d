/- The model's operations turned into the compact ones: each does what the compact one says. Lemmas. Conditions: none. -/
import Derived.Test.YtpabbbmfcgnhdaaGreatLb
set_option linter.unusedVariables false
namespace Go.AW
def yX(n:Nat)(o:Oper):Option Nat:=o.dst.bind fun d=>if d < n then some d else none
def zcd:Option Operand→Option (Option Opd)
 |none=>some none
 |some x=>(zU x).map some
def xN(P:Program)(t:TypeId):Option TypeId:=match P.underlying t with
 |some (.slice e)=>some e
 |_=>none
def fieldsOf(P:Program)(t:TypeId):Option (Array Field):=match P.underlying t with
 |some (.struct fs)=>some fs
 |_=>none
def zfC(P:Program)(t:TypeId):Option IntKind:=match P.underlying t with
 |some (.int k)=>some k
 |_=>none
def zhy(P:Program)(t:TypeId):Option Bool:=match P.underlying t with
 |some .string=>some true
 |some (.slice _)=>some false
 |_=>none
def zg8(P:Program)(t:TypeId):Bool:=match P.underlying t with
 |some .bool=>true
 |_=>false
def zdJ(P:Program):Nat→TypeId→List D
 |0,_=>[]
 |n+1,t=>match P.underlying t with
  |some (.int k)=>[.int k 0]
  |some .bool=>[.bool false]
  |some .string=>[.str ByteArray.empty]
  |some (.slice e)=>[.sl ((szP P e).getD 0) []]
  |some (.struct fs)=>fs.toList.flatMap fun f=>zdJ P n f.type
  |_=>[.ptr []]
def ziD:Operand→Bool
 | .const (.slice none 0 0)=>true
 |_=>false
def zjP(P:Program)(t:TypeId):Bool:=match P.underlying t with
 |some (.struct fs)=>zfX P fs.toList 0&&!P.stoodInHeld t&&!P.eqGuardType P.depth t
 |_=>false
def zCP:Fn→Option FuncId
 | .func f=>some f
 |_=>none
def ziC{α:Type}:List α→Option α
 |[x]=>some x
 |_=>none
def zf0{α:Type}:List α→Option (α×α)
 |[x,y]=>some (x,y)
 |_=>none
def Q6(P:Program)(n:Nat)(o:Oper)(c:Call):Option IOp:=
 match c.callee with
 | .builtin .len=>(ziC c.args.toList).bind fun x=>(yX n o).bind fun d=>c.argTypes[0]?.bind fun t=>(zhy P t).bind fun st=>(zU x).map (.len d st)
 | .builtin .append=>(zf0 c.args.toList).bind fun xy=>(zf0 c.argTypes.toList).bind fun tu=>if tu.1=tu.2 then(yX n o).bind fun d=>(xN P tu.1).bind fun e=>(P.info? e).bind fun i=>i.zero.bind fun z=>
   if z.cells.size=i.size then(zU xy.1).bind fun x=>(zU xy.2).map (.app d i.size i.bytes (zdJ P 8 e) x) else none else(zfC P tu.2).bind fun _=>(yX n o).bind fun d=>(xN P tu.1).bind fun e=>(P.info? e).bind fun i=>i.zero.bind fun z=>(z.cells.toList.mapM zaW).bind fun zs=>
   if zs.length=i.size∧i.size≠0 then(zU xy.1).bind fun x=>(zU xy.2).map (.apm d i.size i.bytes (JJ zs (zdJ P 8 e)) x) else none
 | .builtin .max=>(zf0 c.args.toList).bind fun xy=>(yX n o).bind fun d=>(zU xy.1).bind fun x=>(zU xy.2).map (.mm d true x)
 | .builtin .min=>(zf0 c.args.toList).bind fun xy=>(yX n o).bind fun d=>(zU xy.1).bind fun x=>(zU xy.2).map (.mm d false x)
 | .builtin .clear=>(ziC c.args.toList).bind fun x=>c.argTypes[0]?.bind fun t=>(xN P t).bind fun e=>(P.info? e).bind fun i=>i.zero.bind fun z=>(z.cells.toList.mapM zaW).bind fun zs=>
   if zs.length=i.size∧i.size≠0∧o.dst=none then(zU x).map (.clear i.size (JJ zs (zdJ P 8 e))) else none
 | .builtin .cap=>(ziC c.args.toList).bind fun x=>c.argTypes[0]?.bind fun t=>(yX n o).bind fun d=>(xN P t).bind fun _=>(zU x).map (.cap d)
 | .builtin .copy=>(zf0 c.args.toList).bind fun xy=>c.argTypes[0]?.bind fun t=>(yX n o).bind fun d=>(xN P t).bind fun e=>(P.info? e).bind fun i=>(zU xy.1).bind fun x=>(zU xy.2).map (.copy d i.size x)
 | .value f=>(yX n o).bind fun d=>(zU f).bind fun f=>(c.args.toList.mapM zU).map (.callv d f)
 |_=>none
def znL(o:Oper):Option Unit:=if o.dst=none then some () else none
def K0(P:Program)(n:Nat)(o:Oper):Option IOp:=
 match o.op with
 | .move x=>(yX n o).bind fun d=>(zU x).map (.mov d)
 | .assign x=>(yX n o).bind fun d=>(zU x).map (.mov d)
 | .pick c x y=>(yX n o).bind fun d=>(zU c).bind fun c=>(zU x).bind fun x=>(zU y).map (.pick d c x)
 | .alloc e=>(yX n o).bind fun d=>(zc9 P e).map (.var d)
 | .box _ x=>(yX n o).bind fun d=>(zU x).map (.box d)
 | .build t ps=>(yX n o).bind fun d=>(fieldsOf P t).bind fun fs=>if fs.toList.all (fun f=>(szP P f.type).isSome) then(zc9 P t).bind fun zs=>(K4 (zad P fs) ps.toList).map (.build d zs) else none
 | .buildSlice t len ps=>(yX n o).bind fun d=>(xN P t).bind fun e=>(szP P e).bind fun sz=>(zc9 P e).bind fun zs=>
   if 0 < sz∧len * sz≤1024∧zs.length=sz then(K4 (fun i=>some (i * sz,sz)) ps.toList).map (.bslice d sz (List.replicate len zs).flatten) else none
 | .load t x=>(yX n o).bind fun d=>(zgu P t).bind fun ag=>(zU x).map (.load d ag)
 | .store t x v=>if o.dst=none then(szP P t).bind fun k=>(zU x).bind fun x=>(zU v).map (.store k (zdJ P 8 t) x) else none
 | .nilCheck x=>(yX n o).bind fun d=>(zU x).map (.nilchk d)
 | .binOp op t x y _=>(yX n o).bind fun d=>(zU x).bind fun x'=>if ziD y&&(xN P t).isSome then(match op with| .eql=>some (.isnil d false x')| .neq=>some (.isnil d true x')|_=>none) else(zU y).bind fun y=>let x:=x'
   if zjP P t then(match op with| .eql=>(fieldsOf P t).map fun fs=> .seql d false fs.size x y| .neq=>(fieldsOf P t).map fun fs=> .seql d true fs.size x y|_=>none) else
   if zg8 P t then(match op with| .eql=>some (.beq d false x y)| .neq=>some (.beq d true x y)|_=>none) else some (.bin d op x y)
 | .unOp .not _ x=>(yX n o).bind fun d=>(zU x).map (.inv d)
 | .convert src dst x=>(yX n o).bind fun d=>(zfC P src).bind fun _=>(zfC P dst).bind fun k=>(zU x).map (.conv d k)
 | .makeFunc fn first caps=>(yX n o).bind fun d=>(zCP fn).bind fun f=>if first.toList=[] then(caps.toList.mapM zU).map (.mkfn d f) else none
 | .makeSlice t l c=>(yX n o).bind fun d=>(xN P t).bind fun e=>(P.info? e).bind fun i=>i.zero.bind fun z=>(z.cells.toList.mapM zaW).bind fun zs=>
   if zs.length=i.size∧i.size≠0 then(zU l).bind fun l=>(zU c).map (.mksl d i.size i.bytes (JJ zs (zdJ P 8 e)) l) else none
 | .slice t x lo hi mx=>(yX n o).bind fun d=>(xN P t).bind fun e=>(szP P e).bind fun sz=>(zU x).bind fun x=>(zcd lo).bind fun lo=>(zcd hi).bind fun hi=>(zcd mx).bind fun mx=>
   if mx.isSome→hi.isSome then some (.slice d sz x lo hi mx) else none
 | .fieldAddr t x fi=>(yX n o).bind fun d=>(fieldsOf P t).bind fun fs=>fs[fi]?.bind fun f=>(szP P f.type).bind fun k=>if k=0 then none else(zU x).map (.faddr d f.offset)
 | .field t x fi=>(yX n o).bind fun d=>(fieldsOf P t).bind fun fs=>fs[fi]?.bind fun f=>(zgu P f.type).bind fun ag=>(zU x).map (.field d f.offset ag)
 | .indexAddr t x i=>(yX n o).bind fun d=>(xN P t).bind fun e=>(szP P e).bind fun sz=>(zU x).bind fun x=>(zU i).map (.iaddr d sz x)
 | .extract x i=>(yX n o).bind fun d=>(zU x).map fun x=> .ext d x i
 | .index t x i=>(yX n o).bind fun d=>(zhy P t).bind fun st=>if st then(zU x).bind fun x=>(zU i).map (.sidx d x) else none
 | .makeInterface _ _=>(yX n o).bind fun d=>some (.dead (some d))
 | .panic _=>(znL o).bind fun _=>some (.dead none)
 | .call c=>Q6 P n o c
 |_=>none
theorem zu{n d:Nat}{o:Oper}(h:yX n o=some d):o.dst=some d∧d < n:=by
 unfold yX at h
 cases ho:o.dst with
 |none=>rw[ho] at h;cases h
 |some k=>
  rw[ho] at h
  simp only[Option.bind_some] at h
  split at h
  ·rename_i hk
   cases h
   exact⟨rfl,hk⟩
  ·cases h
theorem yj{P:Program}{t e:TypeId}(h:xN P t=some e):P.underlying t=some (.slice e):=by
 unfold xN at h;split at h<;>simp_all
theorem zao{P:Program}{t:TypeId}{fs:Array Field}(h:fieldsOf P t=some fs):P.underlying t=some (.struct fs):=by
 unfold fieldsOf at h;split at h<;>simp_all
theorem zcF{P:Program}{t:TypeId}{k:IntKind}(h:zfC P t=some k):P.underlying t=some (.int k):=by
 unfold zfC at h;split at h<;>simp_all
theorem zdt{P:Program}{t:TypeId}(h:zg8 P t=true):P.underlying t=some .bool:=by
 unfold zg8 at h;split at h<;>simp_all
theorem zaX{x:Option Operand}{y:Option Opd}(h:zcd x=some y):zf7 x y:=by
 cases x with
 |none=>simp[zcd] at h;subst h;trivial
 |some x=>simp only[zcd,omi] at h;obtain⟨z,hz,rfl⟩:=h;exact hz
theorem zcA{α:Type}{xs:Array α}{x:α}(h:ziC xs.toList=some x):xs=#[x]:=by
 unfold ziC at h
 split at h
 ·rename_i y e
  cases h
  exact Array.toList_inj.1 (by simpa using e)
 ·cases h
theorem Q3{α:Type}{xs:Array α}{p:α×α}(h:zf0 xs.toList=some p):xs=#[p.1,p.2]:=by
 unfold zf0 at h
 split at h
 ·rename_i x y e
  cases h
  exact Array.toList_inj.1 (by simpa using e)
 ·cases h
variable {cx:Cx} {m:M} {s:St} {a:Act} {w:World} {o:Oper} {K:Act→World→Prop} {Q:Exit→Act→World→Prop}
theorem ziY(R:zQ cx m s a w){io:IOp}{c:Call}(hop:o.op= .call c)(h:Q6 cx.P cx.n o c=some io){out:Out}(he:ev s io=some out)(hK:∀m' a' w',zQ cx m' (s.app out) a' w'→K a' w'):o.wp cx.P a w K Q:=by
 obtain⟨callee,args,ts⟩:=c
 unfold Q6 at h
 simp only at h
 split at h
 ·simp only[obi,omi] at h
  obtain⟨x,hx0,d,hd,t,ht,st,hst,x',hx,rfl⟩:=h
  have hst':∃e,cx.P.underlying t=some (if st then .string else .slice e):=by
   unfold zhy at hst
   split at hst
   ·rename_i hu;cases hst;exact⟨0,by simpa using hu⟩
   ·rename_i e hu;cases hst;exact⟨e,by simpa using hu⟩
   ·cases hst
  obtain⟨e,hu⟩:=hst'
  have:=zcA hx0
  subst this
  exact zmw R hop ht hu (zu hd).1 (zu hd).2 hx he hK
 ·simp only[obi] at h
  obtain⟨xy,hxy,tu,htu,h⟩:=h
  split at h
  rotate_left
  ·simp only[obi] at h
   obtain⟨kn,hkn,d,hd,e,he',i,hi,z,hz,zs,hzs,h⟩:=h
   split at h
   rotate_left
   ·cases h
   rename_i hc
   simp only[obi,omi] at h
   obtain⟨x',hx,y',hy,rfl⟩:=h
   have h1:=Q3 hxy
   have h2:=Q3 htu
   subst h1
   subst h2
   exact zl5 R hop (yj he') (zcF hkn) hi hz rfl hc.2 ⟨zs,_,hzs,rfl⟩ (by rw[XK];exact hc.1) rfl (zu hd).1 (zu hd).2 hx hy he hK
  rename_i heq
  simp only[obi] at h
  obtain⟨d,hd,e,he',i,hi,z,hz,h⟩:=h
  split at h
  rotate_left
  ·cases h
  rename_i hzs
  simp only[obi,omi] at h
  obtain⟨x',hx,y',hy,rfl⟩:=h
  have h1:=Q3 hxy
  have h2:=Q3 htu
  subst h1
  subst h2
  rw[←heq] at hop
  exact zmG R hop (yj he') hi hz rfl hzs rfl (zu hd).1 (zu hd).2 hx hy he hK
 ·simp only[obi,omi] at h
  obtain⟨xy,hxy,d,hd,x',hx,y',hy,rfl⟩:=h
  have h1:=Q3 hxy
  subst h1
  exact zle (mx:=true) R hop (zu hd).1 (zu hd).2 hx hy he hK
 ·simp only[obi,omi] at h
  obtain⟨xy,hxy,d,hd,x',hx,y',hy,rfl⟩:=h
  have h1:=Q3 hxy
  subst h1
  exact zle (mx:=false) R hop (zu hd).1 (zu hd).2 hx hy he hK
 ·simp only[obi] at h
  obtain⟨x,hx0,t,ht,e,he',i,hi,z,hz,zs,hzs,h⟩:=h
  split at h
  rotate_left
  ·cases h
  rename_i hc
  simp only[omi] at h
  obtain⟨x',hx,rfl⟩:=h
  have:=zcA hx0
  subst this
  exact zj3 R hop ht (yj he') hi hz rfl ⟨zs,_,hzs,rfl⟩ (by rw[XK];exact hc.1) hc.2.1 hc.2.2 hx he hK
 ·simp only[obi,omi] at h
  obtain⟨x,hx0,t,ht,d,hd,e,he',x',hx,rfl⟩:=h
  have:=zcA hx0
  subst this
  exact zm3 R hop ht (yj he') (zu hd).1 (zu hd).2 hx he hK
 ·simp only[obi,omi] at h
  obtain⟨xy,hxy,t,ht,d,hd,e,he',i,hi,x',hx,y',hy,rfl⟩:=h
  have h1:=Q3 hxy
  subst h1
  exact zlR R hop ht (yj he') hi rfl (zu hd).1 (zu hd).2 hx hy he hK
 ·simp only[obi,omi] at h
  obtain⟨d,hd,f',hf,xs',hxs,rfl⟩:=h
  simp[ev] at he
 ·cases h
theorem zk5(R:zQ cx m s a w){io:IOp}(h:K0 cx.P cx.n o=some io){out:Out}(he:ev s io=some out)(hK:∀m' a' w',zQ cx m' (s.app out) a' w'→K a' w'):o.wp cx.P a w K Q:=by
 unfold K0 at h
 split at h
 ·rename_i x hop
  simp only[obi,omi] at h
  obtain⟨d,hd,x',hx,rfl⟩:=h
  exact zjF R (.inl hop) (zu hd).1 (zu hd).2 hx he hK
 ·rename_i x hop
  simp only[obi,omi] at h
  obtain⟨d,hd,x',hx,rfl⟩:=h
  exact zjF R (.inr hop) (zu hd).1 (zu hd).2 hx he hK
 ·rename_i c x y hop
  simp only[obi,omi] at h
  obtain⟨d,hd,c',hc,x',hx,y',hy,rfl⟩:=h
  simp only[ev] at he
  split at he
  ·rename_i t ht
   simp only[Option.some.injEq] at he
   subst he
   exact zkS R hop (zu hd).1 (zu hd).2 hc hx hy ht hK
  ·cases he
 ·rename_i e hop
  simp only[obi,omi] at h
  obtain⟨d,hd,zs,hz,rfl⟩:=h
  simp only[ev] at he
  split at he
  ·rename_i hs
   simp only[Option.some.injEq] at he
   subst he
   exact zmB R hop (zu hd).1 (zu hd).2 hz hs hK
  ·cases he
 ·rename_i e x hop
  simp only[obi,omi] at h
  obtain⟨d,hd,x',hx,rfl⟩:=h
  simp only[ev] at he
  split at he
  ·rename_i hs
   simp only[omi] at he
   obtain⟨cs,hcs,rfl⟩:=he
   exact zmA R hop (zu hd).1 (zu hd).2 hx hcs hs hK
  ·cases he
 ·rename_i t ps hop
  simp only[obi] at h
  obtain⟨d,hd,fs,hfs,h⟩:=h
  split at h
  rotate_left
  ·cases h
  rename_i hall
  simp only[obi,omi] at h
  obtain⟨zs,hz,qs,hqs,rfl⟩:=h
  exact zkb R hop (zao hfs) hz hall hqs (zu hd).1 (zu hd).2 he hK
 ·rename_i t len ps hop
  simp only[obi] at h
  obtain⟨d,hd,e,he',sz,hsz,zs,hz,h⟩:=h
  split at h
  rotate_left
  ·cases h
  rename_i hc
  simp only[omi] at h
  obtain⟨qs,hqs,rfl⟩:=h
  exact zjf R hop (yj he') hsz hc.1 hc.2.1 hz hc.2.2 hqs (zu hd).1 (zu hd).2 he hK
 ·rename_i t x hop
  simp only[obi,omi] at h
  obtain⟨d,hd,ag,hag,x',hx,rfl⟩:=h
  exact zk0 R hop (zu hd).1 (zu hd).2 hx hag he hK
 ·rename_i t x v hop
  split at h
  rotate_left
  ·cases h
  rename_i hd
  simp only[obi,omi] at h
  obtain⟨k,hk,x',hx,v',hv,rfl⟩:=h
  exact zj9 R hop hd hx hv hk he hK
 ·rename_i x hop
  simp only[obi,omi] at h
  obtain⟨d,hd,x',hx,rfl⟩:=h
  exact zjk R hop (zu hd).1 (zu hd).2 hx he hK
 ·rename_i op t x y u hop
  simp only[obi] at h
  obtain⟨d,hd,x',hx,h⟩:=h
  split at h
  ·rename_i hnil
   simp only[Bool.and_eq_true] at hnil
   have hy:y= .const (.slice none 0 0):=by
    have:=hnil.1
    unfold ziD at this
    split at this
    ·rfl
    ·cases this
   obtain⟨e,he'⟩:=Option.isSome_iff_exists.1 hnil.2
   rw[hy] at hop
   split at h
   ·cases h
    exact zgx (neg:=false) R hop rfl (yj he') (zu hd).1 (zu hd).2 hx he hK
   ·cases h
    exact zgx (neg:=true) R hop rfl (yj he') (zu hd).1 (zu hd).2 hx he hK
   ·cases h
  simp only[obi] at h
  obtain⟨y',hy,h⟩:=h
  split at h
  ·rename_i hfl
   unfold zjP at hfl
   split at hfl
   rotate_left
   ·cases hfl
   rename_i fs hfs
   simp only[Bool.and_eq_true,Bool.not_eq_true'] at hfl
   have hfo:fieldsOf cx.P t=some fs:=by unfold fieldsOf;rw[hfs]
   split at h
   ·rw[hfo] at h
    cases h
    exact zig (neg:=false) R hop rfl hfs hfl.1.1 (by simp) hfl.1.2 hfl.2 (zu hd).1 (zu hd).2 hx hy he hK
   ·rw[hfo] at h
    cases h
    exact zig (neg:=true) R hop rfl hfs hfl.1.1 (by simp) hfl.1.2 hfl.2 (zu hd).1 (zu hd).2 hx hy he hK
   ·cases h
  split at h
  ·rename_i hb
   split at h
   ·cases h
    exact zjB (neg:=false) R hop rfl (zdt hb) (zu hd).1 (zu hd).2 hx hy he hK
   ·cases h
    exact zjB (neg:=true) R hop rfl (zdt hb) (zu hd).1 (zu hd).2 hx hy he hK
   ·cases h
  ·cases h
   exact zmz R hop (zu hd).1 (zu hd).2 hx hy he hK
 ·rename_i t x hop
  simp only[obi,omi] at h
  obtain⟨d,hd,x',hx,rfl⟩:=h
  exact zmk R hop (zu hd).1 (zu hd).2 hx he hK
 ·rename_i src dst x hop
  simp only[obi,omi] at h
  obtain⟨d,hd,k0,hk0,k,hk,x',hx,rfl⟩:=h
  exact zlT R hop (zcF hk0) (zcF hk) (zu hd).1 (zu hd).2 hx he hK
 ·rename_i fn first caps hop
  simp only[obi] at h
  obtain⟨d,hd,f,hf,h⟩:=h
  split at h
  rotate_left
  ·cases h
  rename_i hfirst
  simp only[omi] at h
  obtain⟨cs,hcs,rfl⟩:=h
  have hop:o.op= .makeFunc (.func f) #[] caps:=by
   rw[hop]
   have:first=#[]:=Array.toList_inj.1 (by simpa using hfirst)
   subst this
   unfold zCP at hf
   split at hf<;>simp_all
  exact zlg R hop (zu hd).1 (zu hd).2 hcs he hK
 ·rename_i t l c hop
  simp only[obi] at h
  obtain⟨d,hd,e,he',i,hi,z,hz,zs,hzs,h⟩:=h
  split at h
  rotate_left
  ·cases h
  rename_i hc
  simp only[obi,omi] at h
  obtain⟨l',hl,c',hcc,rfl⟩:=h
  exact zlL R hop (yj he') hi hz rfl ⟨zs,_,hzs,rfl⟩ (by rw[XK];exact hc.1) hc.2 rfl (zu hd).1 (zu hd).2 hl hcc he hK
 ·rename_i t x lo hi mx hop
  simp only[obi] at h
  obtain⟨d,hd,e,he',sz,hsz,x',hx,lo',hlo,hi',hhi,mx',hmx,h⟩:=h
  split at h
  rotate_left
  ·cases h
  rename_i hc
  cases h
  exact zkl R hop (yj he') hsz (zu hd).1 (zu hd).2 hx (zaX hlo) (zaX hhi) (zaX hmx) hc he hK
 ·rename_i t x fi hop
  simp only[obi] at h
  obtain⟨d,hd,fs,hfs,f,hf,k,hk,h⟩:=h
  split at h
  ·cases h
  rename_i h0
  simp only[omi] at h
  obtain⟨x',hx,rfl⟩:=h
  exact zkr R hop (zao hfs) hf hk h0 (zu hd).1 (zu hd).2 hx he hK
 ·rename_i t x fi hop
  simp only[obi,omi] at h
  obtain⟨d,hd,fs,hfs,f,hf,ag,hag,x',hx,rfl⟩:=h
  exact zkG R hop (zao hfs) hf hag (zu hd).1 (zu hd).2 hx he hK
 ·rename_i t x i hop
  simp only[obi,omi] at h
  obtain⟨d,hd,e,he',sz,hsz,x',hx,i',hi,rfl⟩:=h
  exact zkf R hop (yj he') hsz (zu hd).1 (zu hd).2 hx hi he hK
 ·rename_i x i hop
  simp only[obi,omi] at h
  obtain⟨d,hd,x',hx,rfl⟩:=h
  exact znh R hop (zu hd).1 (zu hd).2 hx he hK
 ·rename_i t x i hop
  simp only[obi] at h
  obtain⟨d,hd,st,hst,h⟩:=h
  split at h
  rotate_left
  ·cases h
  rename_i hs
  subst hs
  simp only[obi,omi] at h
  obtain⟨x',hx,i',hi,rfl⟩:=h
  exact zkQ R hop (by unfold zhy at hst;split at hst<;>simp_all) (zu hd).1 (zu hd).2 hx hi he hK
 ·rw[obi] at h
  obtain⟨_,_,h⟩:=h
  cases h
  cases he
 ·rw[obi] at h
  obtain⟨_,_,h⟩:=h
  cases h
  cases he
 ·rename_i c hop
  exact ziY R hop h he hK
 ·cases h
end Go.AW
