/- The model's operations turned into the compact ones: each does what the compact one says. Lemmas. Conditions: none. -/
import Derived.Test.YtpabbbmfcgnhdaaGreatLb
set_option linter.unusedVariables false
namespace Go.AW
def yH(n:Nat)(o:Oper):Option Nat:=o.dst.bind fun d=>if d < n then some d else none
def zbs:Option Operand→Option (Option Opd)
 |none=>some none
 |some x=>(zU x).map some
def xH(P:Program)(t:TypeId):Option TypeId:=match P.underlying t with
 |some (.slice e)=>some e
 |_=>none
def fieldsOf(P:Program)(t:TypeId):Option (Array Field):=match P.underlying t with
 |some (.struct fs)=>some fs
 |_=>none
def zfl(P:Program)(t:TypeId):Option IntKind:=match P.underlying t with
 |some (.int k)=>some k
 |_=>none
def zgH(P:Program)(t:TypeId):Option Bool:=match P.underlying t with
 |some .string=>some true
 |some (.slice _)=>some false
 |_=>none
def zgs(P:Program)(t:TypeId):Bool:=match P.underlying t with
 |some .bool=>true
 |_=>false
def zdb(P:Program):Nat→TypeId→List D
 |0,_=>[]
 |n+1,t=>match P.underlying t with
  |some (.int k)=>[.int k 0]
  |some .bool=>[.bool false]
  |some .string=>[.str ByteArray.empty]
  |some (.slice e)=>[.sl ((szP P e).getD 0) []]
  |some (.struct fs)=>fs.toList.flatMap fun f=>zdb P n f.type
  |_=>[.ptr []]
def zhO:Operand→Bool
 | .const (.slice none 0 0)=>true
 |_=>false
def ziT(P:Program)(t:TypeId):Bool:=match P.underlying t with
 |some (.struct fs)=>zeT P fs.toList 0&&!P.stoodInHeld t&&!P.eqGuardType P.depth t
 |_=>false
def zx2:Fn→Option FuncId
 | .func f=>some f
 |_=>none
def zg5{α:Type}:List α→Option α
 |[x]=>some x
 |_=>none
def ze0{α:Type}:List α→Option (α×α)
 |[x,y]=>some (x,y)
 |_=>none
def QA(P:Program)(n:Nat)(o:Oper)(c:Call):Option IOp:=
 match c.callee with
 | .builtin .len=>(zg5 c.args.toList).bind fun x=>(yH n o).bind fun d=>c.argTypes[0]?.bind fun t=>(zgH P t).bind fun st=>(zU x).map (.len d st)
 | .builtin .append=>(ze0 c.args.toList).bind fun xy=>(ze0 c.argTypes.toList).bind fun tu=>if tu.1=tu.2 then(yH n o).bind fun d=>(xH P tu.1).bind fun e=>(P.info? e).bind fun i=>i.zero.bind fun z=>
   if z.cells.size=i.size then(zU xy.1).bind fun x=>(zU xy.2).map (.app d i.size i.bytes (zdb P 8 e) x) else none else(zfl P tu.2).bind fun _=>(yH n o).bind fun d=>(xH P tu.1).bind fun e=>(P.info? e).bind fun i=>i.zero.bind fun z=>(z.cells.toList.mapM zag).bind fun zs=>
   if zs.length=i.size∧i.size≠0 then(zU xy.1).bind fun x=>(zU xy.2).map (.apm d i.size i.bytes (Jm zs (zdb P 8 e)) x) else none
 | .builtin .max=>(ze0 c.args.toList).bind fun xy=>(yH n o).bind fun d=>(zU xy.1).bind fun x=>(zU xy.2).map (.mm d true x)
 | .builtin .min=>(ze0 c.args.toList).bind fun xy=>(yH n o).bind fun d=>(zU xy.1).bind fun x=>(zU xy.2).map (.mm d false x)
 | .builtin .clear=>(zg5 c.args.toList).bind fun x=>c.argTypes[0]?.bind fun t=>(xH P t).bind fun e=>(P.info? e).bind fun i=>i.zero.bind fun z=>(z.cells.toList.mapM zag).bind fun zs=>
   if zs.length=i.size∧i.size≠0∧o.dst=none then(zU x).map (.clear i.size (Jm zs (zdb P 8 e))) else none
 | .builtin .cap=>(zg5 c.args.toList).bind fun x=>c.argTypes[0]?.bind fun t=>(yH n o).bind fun d=>(xH P t).bind fun _=>(zU x).map (.cap d)
 | .builtin .copy=>(ze0 c.args.toList).bind fun xy=>c.argTypes[0]?.bind fun t=>(yH n o).bind fun d=>(xH P t).bind fun e=>(P.info? e).bind fun i=>(zU xy.1).bind fun x=>(zU xy.2).map (.copy d i.size x)
 | .value f=>(yH n o).bind fun d=>(zU f).bind fun f=>(c.args.toList.mapM zU).map (.callv d f)
 |_=>none
def zmz(o:Oper):Option Unit:=if o.dst=none then some () else none
def Km(P:Program)(n:Nat)(o:Oper):Option IOp:=
 match o.op with
 | .move x=>(yH n o).bind fun d=>(zU x).map (.mov d)
 | .assign x=>(yH n o).bind fun d=>(zU x).map (.mov d)
 | .pick c x y=>(yH n o).bind fun d=>(zU c).bind fun c=>(zU x).bind fun x=>(zU y).map (.pick d c x)
 | .alloc e=>(yH n o).bind fun d=>(zct P e).map (.var d)
 | .box _ x=>(yH n o).bind fun d=>(zU x).map (.box d)
 | .build t ps=>(yH n o).bind fun d=>(fieldsOf P t).bind fun fs=>if fs.toList.all (fun f=>(szP P f.type).isSome) then(zct P t).bind fun zs=>(Kq (Kn P fs) ps.toList).map (.build d zs) else none
 | .buildSlice t len ps=>(yH n o).bind fun d=>(xH P t).bind fun e=>(szP P e).bind fun sz=>(zct P e).bind fun zs=>
   if 0 < sz∧len * sz≤1024∧zs.length=sz then(Kq (fun i=>some (i * sz,sz)) ps.toList).map (.bslice d sz (List.replicate len zs).flatten) else none
 | .load t x=>(yH n o).bind fun d=>(zfH P t).bind fun ag=>(zU x).map (.load d ag)
 | .store t x v=>if o.dst=none then(szP P t).bind fun k=>(zU x).bind fun x=>(zU v).map (.store k (zdb P 8 t) x) else none
 | .nilCheck x=>(yH n o).bind fun d=>(zU x).map (.nilchk d)
 | .binOp op t x y _=>(yH n o).bind fun d=>(zU x).bind fun x'=>if zhO y&&(xH P t).isSome then(match op with| .eql=>some (.isnil d false x')| .neq=>some (.isnil d true x')|_=>none) else(zU y).bind fun y=>let x:=x'
   if ziT P t then(match op with| .eql=>(fieldsOf P t).map fun fs=> .seql d false fs.size x y| .neq=>(fieldsOf P t).map fun fs=> .seql d true fs.size x y|_=>none) else
   if zgs P t then(match op with| .eql=>some (.beq d false x y)| .neq=>some (.beq d true x y)|_=>none) else some (.bin d op x y)
 | .unOp .not _ x=>(yH n o).bind fun d=>(zU x).map (.inv d)
 | .convert src dst x=>(yH n o).bind fun d=>(zfl P src).bind fun _=>(zfl P dst).bind fun k=>(zU x).map (.conv d k)
 | .makeFunc fn first caps=>(yH n o).bind fun d=>(zx2 fn).bind fun f=>if first.toList=[] then(caps.toList.mapM zU).map (.mkfn d f) else none
 | .makeSlice t l c=>(yH n o).bind fun d=>(xH P t).bind fun e=>(P.info? e).bind fun i=>i.zero.bind fun z=>(z.cells.toList.mapM zag).bind fun zs=>
   if zs.length=i.size∧i.size≠0 then(zU l).bind fun l=>(zU c).map (.mksl d i.size i.bytes (Jm zs (zdb P 8 e)) l) else none
 | .slice t x lo hi mx=>(yH n o).bind fun d=>(xH P t).bind fun e=>(szP P e).bind fun sz=>(zU x).bind fun x=>(zbs lo).bind fun lo=>(zbs hi).bind fun hi=>(zbs mx).bind fun mx=>
   if mx.isSome→hi.isSome then some (.slice d sz x lo hi mx) else none
 | .fieldAddr t x fi=>(yH n o).bind fun d=>(fieldsOf P t).bind fun fs=>fs[fi]?.bind fun f=>(szP P f.type).bind fun k=>if k=0 then none else(zU x).map (.faddr d f.offset)
 | .field t x fi=>(yH n o).bind fun d=>(fieldsOf P t).bind fun fs=>fs[fi]?.bind fun f=>(zfH P f.type).bind fun ag=>(zU x).map (.field d f.offset ag)
 | .indexAddr t x i=>(yH n o).bind fun d=>(xH P t).bind fun e=>(szP P e).bind fun sz=>(zU x).bind fun x=>(zU i).map (.iaddr d sz x)
 | .extract x i=>(yH n o).bind fun d=>(zU x).map fun x=> .ext d x i
 | .index t x i=>(yH n o).bind fun d=>(zgH P t).bind fun st=>if st then(zU x).bind fun x=>(zU i).map (.sidx d x) else none
 | .makeInterface _ _=>(yH n o).bind fun d=>some (.dead (some d))
 | .panic _=>(zmz o).bind fun _=>some (.dead none)
 | .call c=>QA P n o c
 |_=>none
theorem zo{n d:Nat}{o:Oper}(h:yH n o=some d):o.dst=some d∧d < n:=by
 unfold yH at h
 cases ho:o.dst with
 |none=>rw[ho] at h;cases h
 |some k=>
  rw[ho] at h
  simp only[Option.bind_some] at h
  split at h
  ·rename_i hk
   cases h
   exact⟨rfl,hk⟩
  ·cases h
theorem j5{P:Program}{t e:TypeId}(h:xH P t=some e):P.underlying t=some (.slice e):=by
 unfold xH at h;split at h<;>simp_all
theorem KF{P:Program}{t:TypeId}{fs:Array Field}(h:fieldsOf P t=some fs):P.underlying t=some (.struct fs):=by
 unfold fieldsOf at h;split at h<;>simp_all
theorem zb1{P:Program}{t:TypeId}{k:IntKind}(h:zfl P t=some k):P.underlying t=some (.int k):=by
 unfold zfl at h;split at h<;>simp_all
theorem zcy{P:Program}{t:TypeId}(h:zgs P t=true):P.underlying t=some .bool:=by
 unfold zgs at h;split at h<;>simp_all
theorem zak{x:Option Operand}{y:Option Opd}(h:zbs x=some y):zeK x y:=by
 cases x with
 |none=>simp[zbs] at h;subst h;trivial
 |some x=>simp only[zbs,omi] at h;obtain⟨z,hz,rfl⟩:=h;exact hz
theorem zbV{α:Type}{xs:Array α}{x:α}(h:zg5 xs.toList=some x):xs=#[x]:=by
 unfold zg5 at h
 split at h
 ·rename_i y e
  cases h
  exact Array.toList_inj.1 (by simpa using e)
 ·cases h
theorem QG{α:Type}{xs:Array α}{p:α×α}(h:ze0 xs.toList=some p):xs=#[p.1,p.2]:=by
 unfold ze0 at h
 split at h
 ·rename_i x y e
  cases h
  exact Array.toList_inj.1 (by simpa using e)
 ·cases h
variable {cx:Cx} {m:M} {s:St} {a:Act} {w:World} {o:Oper} {K:Act→World→Prop} {Q:Exit→Act→World→Prop}
theorem ziq(R:zQ cx m s a w){io:IOp}{c:Call}(hop:o.op= .call c)(h:QA cx.P cx.n o c=some io){out:Out}(he:ev s io=some out)(hK:∀m' a' w',zQ cx m' (s.app out) a' w'→K a' w'):o.wp cx.P a w K Q:=by
 obtain⟨callee,args,ts⟩:=c
 unfold QA at h
 simp only at h
 split at h
 ·simp only[obi,omi] at h
  obtain⟨x,hx0,d,hd,t,ht,st,hst,x',hx,rfl⟩:=h
  have hst':∃e,cx.P.underlying t=some (if st then .string else .slice e):=by
   unfold zgH at hst
   split at hst
   ·rename_i hu;cases hst;exact⟨0,by simpa using hu⟩
   ·rename_i e hu;cases hst;exact⟨e,by simpa using hu⟩
   ·cases hst
  obtain⟨e,hu⟩:=hst'
  have:=zbV hx0
  subst this
  exact zmb R hop ht hu (zo hd).1 (zo hd).2 hx he hK
 ·simp only[obi] at h
  obtain⟨xy,hxy,tu,htu,h⟩:=h
  split at h
  rotate_left
  ·simp only[obi] at h
   obtain⟨kn,hkn,d,hd,e,he',i,hi,z,hz,zs,hzs,h⟩:=h
   split at h
   rotate_left
   ·cases h
   rename_i hc
   simp only[obi,omi] at h
   obtain⟨x',hx,y',hy,rfl⟩:=h
   have h1:=QG hxy
   have h2:=QG htu
   subst h1
   subst h2
   exact zlj R hop (j5 he') (zb1 hkn) hi hz rfl hc.2 ⟨zs,_,hzs,rfl⟩ (by rw[Xb];exact hc.1) rfl (zo hd).1 (zo hd).2 hx hy he hK
  rename_i heq
  simp only[obi] at h
  obtain⟨d,hd,e,he',i,hi,z,hz,h⟩:=h
  split at h
  rotate_left
  ·cases h
  rename_i hzs
  simp only[obi,omi] at h
  obtain⟨x',hx,y',hy,rfl⟩:=h
  have h1:=QG hxy
  have h2:=QG htu
  subst h1
  subst h2
  rw[←heq] at hop
  exact zmj R hop (j5 he') hi hz rfl hzs rfl (zo hd).1 (zo hd).2 hx hy he hK
 ·simp only[obi,omi] at h
  obtain⟨xy,hxy,d,hd,x',hx,y',hy,rfl⟩:=h
  have h1:=QG hxy
  subst h1
  exact zkp (mx:=true) R hop (zo hd).1 (zo hd).2 hx hy he hK
 ·simp only[obi,omi] at h
  obtain⟨xy,hxy,d,hd,x',hx,y',hy,rfl⟩:=h
  have h1:=QG hxy
  subst h1
  exact zkp (mx:=false) R hop (zo hd).1 (zo hd).2 hx hy he hK
 ·simp only[obi] at h
  obtain⟨x,hx0,t,ht,e,he',i,hi,z,hz,zs,hzs,h⟩:=h
  split at h
  rotate_left
  ·cases h
  rename_i hc
  simp only[omi] at h
  obtain⟨x',hx,rfl⟩:=h
  have:=zbV hx0
  subst this
  exact zjI R hop ht (j5 he') hi hz rfl ⟨zs,_,hzs,rfl⟩ (by rw[Xb];exact hc.1) hc.2.1 hc.2.2 hx he hK
 ·simp only[obi,omi] at h
  obtain⟨x,hx0,t,ht,d,hd,e,he',x',hx,rfl⟩:=h
  have:=zbV hx0
  subst this
  exact zk9 R hop ht (j5 he') (zo hd).1 (zo hd).2 hx he hK
 ·simp only[obi,omi] at h
  obtain⟨xy,hxy,t,ht,d,hd,e,he',i,hi,x',hx,y',hy,rfl⟩:=h
  have h1:=QG hxy
  subst h1
  exact zj6 R hop ht (j5 he') hi rfl (zo hd).1 (zo hd).2 hx hy he hK
 ·simp only[obi,omi] at h
  obtain⟨d,hd,f',hf,xs',hxs,rfl⟩:=h
  simp[ev] at he
 ·cases h
theorem zkH(R:zQ cx m s a w){io:IOp}(h:Km cx.P cx.n o=some io){out:Out}(he:ev s io=some out)(hK:∀m' a' w',zQ cx m' (s.app out) a' w'→K a' w'):o.wp cx.P a w K Q:=by
 unfold Km at h
 split at h
 ·rename_i x hop
  simp only[obi,omi] at h
  obtain⟨d,hd,x',hx,rfl⟩:=h
  exact zi2 R (.inl hop) (zo hd).1 (zo hd).2 hx he hK
 ·rename_i x hop
  simp only[obi,omi] at h
  obtain⟨d,hd,x',hx,rfl⟩:=h
  exact zi2 R (.inr hop) (zo hd).1 (zo hd).2 hx he hK
 ·rename_i c x y hop
  simp only[obi,omi] at h
  obtain⟨d,hd,c',hc,x',hx,y',hy,rfl⟩:=h
  simp only[ev] at he
  split at he
  ·rename_i t ht
   simp only[Option.some.injEq] at he
   subst he
   exact zkb R hop (zo hd).1 (zo hd).2 hc hx hy ht hK
  ·cases he
 ·rename_i e hop
  simp only[obi,omi] at h
  obtain⟨d,hd,zs,hz,rfl⟩:=h
  simp only[ev] at he
  split at he
  ·rename_i hs
   simp only[Option.some.injEq] at he
   subst he
   exact zmq R hop (zo hd).1 (zo hd).2 hz hs hK
  ·cases he
 ·rename_i e x hop
  simp only[obi,omi] at h
  obtain⟨d,hd,x',hx,rfl⟩:=h
  simp only[ev] at he
  split at he
  ·rename_i hs
   simp only[omi] at he
   obtain⟨cs,hcs,rfl⟩:=he
   exact zlF R hop (zo hd).1 (zo hd).2 hx hcs hs hK
  ·cases he
 ·rename_i t ps hop
  simp only[obi] at h
  obtain⟨d,hd,fs,hfs,h⟩:=h
  split at h
  rotate_left
  ·cases h
  rename_i hall
  simp only[obi,omi] at h
  obtain⟨zs,hz,qs,hqs,rfl⟩:=h
  exact zjD R hop (KF hfs) hz hall hqs (zo hd).1 (zo hd).2 he hK
 ·rename_i t len ps hop
  simp only[obi] at h
  obtain⟨d,hd,e,he',sz,hsz,zs,hz,h⟩:=h
  split at h
  rotate_left
  ·cases h
  rename_i hc
  simp only[omi] at h
  obtain⟨qs,hqs,rfl⟩:=h
  exact zix R hop (j5 he') hsz hc.1 hc.2.1 hz hc.2.2 hqs (zo hd).1 (zo hd).2 he hK
 ·rename_i t x hop
  simp only[obi,omi] at h
  obtain⟨d,hd,ag,hag,x',hx,rfl⟩:=h
  exact zkx R hop (zo hd).1 (zo hd).2 hx hag he hK
 ·rename_i t x v hop
  split at h
  rotate_left
  ·cases h
  rename_i hd
  simp only[obi,omi] at h
  obtain⟨k,hk,x',hx,v',hv,rfl⟩:=h
  exact zjE R hop hd hx hv hk he hK
 ·rename_i x hop
  simp only[obi,omi] at h
  obtain⟨d,hd,x',hx,rfl⟩:=h
  exact zin R hop (zo hd).1 (zo hd).2 hx he hK
 ·rename_i op t x y u hop
  simp only[obi] at h
  obtain⟨d,hd,x',hx,h⟩:=h
  split at h
  ·rename_i hnil
   simp only[Bool.and_eq_true] at hnil
   have hy:y= .const (.slice none 0 0):=by
    have:=hnil.1
    unfold zhO at this
    split at this
    ·rfl
    ·cases this
   obtain⟨e,he'⟩:=Option.isSome_iff_exists.1 hnil.2
   rw[hy] at hop
   split at h
   ·cases h
    exact zf3 (neg:=false) R hop rfl (j5 he') (zo hd).1 (zo hd).2 hx he hK
   ·cases h
    exact zf3 (neg:=true) R hop rfl (j5 he') (zo hd).1 (zo hd).2 hx he hK
   ·cases h
  simp only[obi] at h
  obtain⟨y',hy,h⟩:=h
  split at h
  ·rename_i hfl
   unfold ziT at hfl
   split at hfl
   rotate_left
   ·cases hfl
   rename_i fs hfs
   simp only[Bool.and_eq_true,Bool.not_eq_true'] at hfl
   have hfo:fieldsOf cx.P t=some fs:=by unfold fieldsOf;rw[hfs]
   split at h
   ·rw[hfo] at h
    cases h
    exact zhH (neg:=false) R hop rfl hfs hfl.1.1 (by simp) hfl.1.2 hfl.2 (zo hd).1 (zo hd).2 hx hy he hK
   ·rw[hfo] at h
    cases h
    exact zhH (neg:=true) R hop rfl hfs hfl.1.1 (by simp) hfl.1.2 hfl.2 (zo hd).1 (zo hd).2 hx hy he hK
   ·cases h
  split at h
  ·rename_i hb
   split at h
   ·cases h
    exact ziR (neg:=false) R hop rfl (zcy hb) (zo hd).1 (zo hd).2 hx hy he hK
   ·cases h
    exact ziR (neg:=true) R hop rfl (zcy hb) (zo hd).1 (zo hd).2 hx hy he hK
   ·cases h
  ·cases h
   exact zlU R hop (zo hd).1 (zo hd).2 hx hy he hK
 ·rename_i t x hop
  simp only[obi,omi] at h
  obtain⟨d,hd,x',hx,rfl⟩:=h
  exact zlA R hop (zo hd).1 (zo hd).2 hx he hK
 ·rename_i src dst x hop
  simp only[obi,omi] at h
  obtain⟨d,hd,k0,hk0,k,hk,x',hx,rfl⟩:=h
  exact zkY R hop (zb1 hk0) (zb1 hk) (zo hd).1 (zo hd).2 hx he hK
 ·rename_i fn first caps hop
  simp only[obi] at h
  obtain⟨d,hd,f,hf,h⟩:=h
  split at h
  rotate_left
  ·cases h
  rename_i hfirst
  simp only[omi] at h
  obtain⟨cs,hcs,rfl⟩:=h
  have hop:o.op= .makeFunc (.func f) #[] caps:=by
   rw[hop]
   have:first=#[]:=Array.toList_inj.1 (by simpa using hfirst)
   subst this
   unfold zx2 at hf
   split at hf<;>simp_all
  exact zj1 R hop (zo hd).1 (zo hd).2 hcs he hK
 ·rename_i t l c hop
  simp only[obi] at h
  obtain⟨d,hd,e,he',i,hi,z,hz,zs,hzs,h⟩:=h
  split at h
  rotate_left
  ·cases h
  rename_i hc
  simp only[obi,omi] at h
  obtain⟨l',hl,c',hcc,rfl⟩:=h
  exact zj9 R hop (j5 he') hi hz rfl ⟨zs,_,hzs,rfl⟩ (by rw[Xb];exact hc.1) hc.2 rfl (zo hd).1 (zo hd).2 hl hcc he hK
 ·rename_i t x lo hi mx hop
  simp only[obi] at h
  obtain⟨d,hd,e,he',sz,hsz,x',hx,lo',hlo,hi',hhi,mx',hmx,h⟩:=h
  split at h
  rotate_left
  ·cases h
  rename_i hc
  cases h
  exact zjA R hop (j5 he') hsz (zo hd).1 (zo hd).2 hx (zak hlo) (zak hhi) (zak hmx) hc he hK
 ·rename_i t x fi hop
  simp only[obi] at h
  obtain⟨d,hd,fs,hfs,f,hf,k,hk,h⟩:=h
  split at h
  ·cases h
  rename_i h0
  simp only[omi] at h
  obtain⟨x',hx,rfl⟩:=h
  exact zjV R hop (KF hfs) hf hk h0 (zo hd).1 (zo hd).2 hx he hK
 ·rename_i t x fi hop
  simp only[obi,omi] at h
  obtain⟨d,hd,fs,hfs,f,hf,ag,hag,x',hx,rfl⟩:=h
  exact zjd R hop (KF hfs) hf hag (zo hd).1 (zo hd).2 hx he hK
 ·rename_i t x i hop
  simp only[obi,omi] at h
  obtain⟨d,hd,e,he',sz,hsz,x',hx,i',hi,rfl⟩:=h
  exact zjY R hop (j5 he') hsz (zo hd).1 (zo hd).2 hx hi he hK
 ·rename_i x i hop
  simp only[obi,omi] at h
  obtain⟨d,hd,x',hx,rfl⟩:=h
  exact zml R hop (zo hd).1 (zo hd).2 hx he hK
 ·rename_i t x i hop
  simp only[obi] at h
  obtain⟨d,hd,st,hst,h⟩:=h
  split at h
  rotate_left
  ·cases h
  rename_i hs
  subst hs
  simp only[obi,omi] at h
  obtain⟨x',hx,i',hi,rfl⟩:=h
  exact zkz R hop (by unfold zgH at hst;split at hst<;>simp_all) (zo hd).1 (zo hd).2 hx hi he hK
 ·rw[obi] at h
  obtain⟨_,_,h⟩:=h
  cases h
  cases he
 ·rw[obi] at h
  obtain⟨_,_,h⟩:=h
  cases h
  cases he
 ·rename_i c hop
  exact ziq R hop h he hK
 ·cases h
end Go.AW
