/- The model's operations turned into the compact ones: each does what the compact one says. Lemmas. Conditions: none. -/
import Derived.Test.YtlcjjljmjdmobaaLb
set_option linter.unusedVariables false
namespace Go.AW
def yc(n:Nat)(o:Oper):Option Nat:=o.dst.bind fun d=>if d < n then some d else none
def xF:Option Operand→Option (Option Opd)
 |none=>some none
 |some x=>(zL x).map some
def QH(P:Program)(t:TypeId):Option TypeId:=match P.underlying t with
 |some (.slice e)=>some e
 |_=>none
def fieldsOf(P:Program)(t:TypeId):Option (Array Field):=match P.underlying t with
 |some (.struct fs)=>some fs
 |_=>none
def Kt(P:Program)(t:TypeId):Option IntKind:=match P.underlying t with
 |some (.int k)=>some k
 |_=>none
def K7(P:Program)(t:TypeId):Option Bool:=match P.underlying t with
 |some .string=>some true
 |some (.slice _)=>some false
 |_=>none
def zbg(P:Program)(t:TypeId):Bool:=match P.underlying t with
 |some .bool=>true
 |_=>false
def Xe(P:Program):Nat→TypeId→List D
 |0,_=>[]
 |n+1,t=>match P.underlying t with
  |some (.int k)=>[.int k 0]
  |some .bool=>[.bool false]
  |some .string=>[.str ByteArray.empty]
  |some (.slice e)=>[.sl ((szP P e).getD 0) []]
  |some (.struct fs)=>fs.toList.flatMap fun f=>Xe P n f.type
  |_=>[.ptr []]
def zbC:Operand→Bool
 | .const (.slice none 0 0)=>true
 |_=>false
def zdc(P:Program)(t:TypeId):Bool:=match P.underlying t with
 |some (.struct fs)=>Ky P fs.toList 0&&!P.stoodInHeld t&&!P.eqGuardType P.depth t
 |_=>false
def zmf:Fn→Option FuncId
 | .func f=>some f
 |_=>none
def zbU{α:Type}:List α→Option α
 |[x]=>some x
 |_=>none
def zac{α:Type}:List α→Option (α×α)
 |[x,y]=>some (x,y)
 |_=>none
def ZT(P:Program)(n:Nat)(o:Oper)(c:Call):Option IOp:=
 match c.callee with
 | .builtin .len=>(zbU c.args.toList).bind fun x=>(yc n o).bind fun d=>c.argTypes[0]?.bind fun t=>(K7 P t).bind fun st=>(zL x).map (.len d st)
 | .builtin .append=>(zac c.args.toList).bind fun xy=>(zac c.argTypes.toList).bind fun tu=>if tu.1=tu.2 then(yc n o).bind fun d=>(QH P tu.1).bind fun e=>(P.info? e).bind fun i=>i.zero.bind fun z=>
   if z.cells.size=i.size then(zL xy.1).bind fun x=>(zL xy.2).map (.app d i.size i.bytes (Xe P 8 e) x) else none else(Kt P tu.2).bind fun _=>(yc n o).bind fun d=>(QH P tu.1).bind fun e=>(P.info? e).bind fun i=>i.zero.bind fun z=>(z.cells.toList.mapM xw).bind fun zs=>
   if zs.length=i.size∧i.size≠0 then(zL xy.1).bind fun x=>(zL xy.2).map (.apm d i.size i.bytes (Qp zs (Xe P 8 e)) x) else none
 | .builtin .max=>(zac c.args.toList).bind fun xy=>(yc n o).bind fun d=>(zL xy.1).bind fun x=>(zL xy.2).map (.mm d true x)
 | .builtin .min=>(zac c.args.toList).bind fun xy=>(yc n o).bind fun d=>(zL xy.1).bind fun x=>(zL xy.2).map (.mm d false x)
 | .builtin .clear=>(zbU c.args.toList).bind fun x=>c.argTypes[0]?.bind fun t=>(QH P t).bind fun e=>(P.info? e).bind fun i=>i.zero.bind fun z=>(z.cells.toList.mapM xw).bind fun zs=>
   if zs.length=i.size∧i.size≠0∧o.dst=none then(zL x).map (.clear i.size (Qp zs (Xe P 8 e))) else none
 | .builtin .cap=>(zbU c.args.toList).bind fun x=>c.argTypes[0]?.bind fun t=>(yc n o).bind fun d=>(QH P t).bind fun _=>(zL x).map (.cap d)
 | .builtin .copy=>(zac c.args.toList).bind fun xy=>c.argTypes[0]?.bind fun t=>(yc n o).bind fun d=>(QH P t).bind fun e=>(P.info? e).bind fun i=>(zL xy.1).bind fun x=>(zL xy.2).map (.copy d i.size x)
 | .value f=>(yc n o).bind fun d=>(zL f).bind fun f=>(c.args.toList.mapM zL).map (.callv d f)
 |_=>none
def zfJ(o:Oper):Option Unit:=if o.dst=none then some () else none
def JN(P:Program)(n:Nat)(o:Oper):Option IOp:=
 match o.op with
 | .move x=>(yc n o).bind fun d=>(zL x).map (.mov d)
 | .assign x=>(yc n o).bind fun d=>(zL x).map (.mov d)
 | .pick c x y=>(yc n o).bind fun d=>(zL c).bind fun c=>(zL x).bind fun x=>(zL y).map (.pick d c x)
 | .alloc e=>(yc n o).bind fun d=>(Y6 P e).map (.var d)
 | .box _ x=>(yc n o).bind fun d=>(zL x).map (.box d)
 | .build t ps=>(yc n o).bind fun d=>(fieldsOf P t).bind fun fs=>if fs.toList.all (fun f=>(szP P f.type).isSome) then(Y6 P t).bind fun zs=>(JD (QQ P fs) ps.toList).map (.build d zs) else none
 | .buildSlice t len ps=>(yc n o).bind fun d=>(QH P t).bind fun e=>(szP P e).bind fun sz=>(Y6 P e).bind fun zs=>
   if 0 < sz∧len * sz≤1024∧zs.length=sz then(JD (fun i=>some (i * sz,sz)) ps.toList).map (.bslice d sz (List.replicate len zs).flatten) else none
 | .load t x=>(yc n o).bind fun d=>(zbj P t).bind fun ag=>(zL x).map (.load d ag)
 | .store t x v=>if o.dst=none then(szP P t).bind fun k=>(zL x).bind fun x=>(zL v).map (.store k (Xe P 8 t) x) else none
 | .nilCheck x=>(yc n o).bind fun d=>(zL x).map (.nilchk d)
 | .binOp op t x y _=>(yc n o).bind fun d=>(zL x).bind fun x'=>if zbC y&&(QH P t).isSome then(match op with| .eql=>some (.isnil d false x')| .neq=>some (.isnil d true x')|_=>none) else(zL y).bind fun y=>let x:=x'
   if zdc P t then(match op with| .eql=>(fieldsOf P t).map fun fs=> .seql d false fs.size x y| .neq=>(fieldsOf P t).map fun fs=> .seql d true fs.size x y|_=>none) else
   if zbg P t then(match op with| .eql=>some (.beq d false x y)| .neq=>some (.beq d true x y)|_=>none) else some (.bin d op x y)
 | .unOp .not _ x=>(yc n o).bind fun d=>(zL x).map (.inv d)
 | .convert src dst x=>(yc n o).bind fun d=>(Kt P src).bind fun _=>(Kt P dst).bind fun k=>(zL x).map (.conv d k)
 | .makeFunc fn first caps=>(yc n o).bind fun d=>(zmf fn).bind fun f=>if first.toList=[] then(caps.toList.mapM zL).map (.mkfn d f) else none
 | .makeSlice t l c=>(yc n o).bind fun d=>(QH P t).bind fun e=>(P.info? e).bind fun i=>i.zero.bind fun z=>(z.cells.toList.mapM xw).bind fun zs=>
   if zs.length=i.size∧i.size≠0 then(zL l).bind fun l=>(zL c).map (.mksl d i.size i.bytes (Qp zs (Xe P 8 e)) l) else none
 | .slice t x lo hi mx=>(yc n o).bind fun d=>(QH P t).bind fun e=>(szP P e).bind fun sz=>(zL x).bind fun x=>(xF lo).bind fun lo=>(xF hi).bind fun hi=>(xF mx).bind fun mx=>
   if mx.isSome→hi.isSome then some (.slice d sz x lo hi mx) else none
 | .fieldAddr t x fi=>(yc n o).bind fun d=>(fieldsOf P t).bind fun fs=>fs[fi]?.bind fun f=>(szP P f.type).bind fun k=>if k=0 then none else(zL x).map (.faddr d f.offset)
 | .field t x fi=>(yc n o).bind fun d=>(fieldsOf P t).bind fun fs=>fs[fi]?.bind fun f=>(zbj P f.type).bind fun ag=>(zL x).map (.field d f.offset ag)
 | .indexAddr t x i=>(yc n o).bind fun d=>(QH P t).bind fun e=>(szP P e).bind fun sz=>(zL x).bind fun x=>(zL i).map (.iaddr d sz x)
 | .extract x i=>(yc n o).bind fun d=>(zL x).map fun x=> .ext d x i
 | .index t x i=>(yc n o).bind fun d=>(K7 P t).bind fun st=>if st then(zL x).bind fun x=>(zL i).map (.sidx d x) else none
 | .makeInterface _ _=>(yc n o).bind fun d=>some (.dead (some d))
 | .panic _=>(zfJ o).bind fun _=>some (.dead none)
 | .call c=>ZT P n o c
 |_=>none
theorem zf{n d:Nat}{o:Oper}(h:yc n o=some d):o.dst=some d∧d < n:=by
 unfold yc at h
 cases ho:o.dst with
 |none=>rw[ho] at h;cases h
 |some k=>
  rw[ho] at h
  simp only[Option.bind_some] at h
  split at h
  ·rename_i hk
   cases h
   exact⟨rfl,hk⟩
  ·cases h
theorem jb{P:Program}{t e:TypeId}(h:QH P t=some e):P.underlying t=some (.slice e):=by
 unfold QH at h;split at h<;>simp_all
theorem ZP{P:Program}{t:TypeId}{fs:Array Field}(h:fieldsOf P t=some fs):P.underlying t=some (.struct fs):=by
 unfold fieldsOf at h;split at h<;>simp_all
theorem x5{P:Program}{t:TypeId}{k:IntKind}(h:Kt P t=some k):P.underlying t=some (.int k):=by
 unfold Kt at h;split at h<;>simp_all
theorem Xa{P:Program}{t:TypeId}(h:zbg P t=true):P.underlying t=some .bool:=by
 unfold zbg at h;split at h<;>simp_all
theorem Y0{x:Option Operand}{y:Option Opd}(h:xF x=some y):KN x y:=by
 cases x with
 |none=>simp[xF] at h;subst h;trivial
 |some x=>simp only[xF,omi] at h;obtain⟨z,hz,rfl⟩:=h;exact hz
theorem YT{α:Type}{xs:Array α}{x:α}(h:zbU xs.toList=some x):xs=#[x]:=by
 unfold zbU at h
 split at h
 ·rename_i y e
  cases h
  exact Array.toList_inj.1 (by simpa using e)
 ·cases h
theorem ZA{α:Type}{xs:Array α}{p:α×α}(h:zac xs.toList=some p):xs=#[p.1,p.2]:=by
 unfold zac at h
 split at h
 ·rename_i x y e
  cases h
  exact Array.toList_inj.1 (by simpa using e)
 ·cases h
variable {cx:Cx} {m:M} {s:St} {a:Act} {w:World} {o:Oper} {K:Act→World→Prop} {Q:Exit→Act→World→Prop}
theorem zcS(R:zC cx m s a w){io:IOp}{c:Call}(hop:o.op= .call c)(h:ZT cx.P cx.n o c=some io){out:Out}(he:ev s io=some out)(hK:∀m' a' w',zC cx m' (s.app out) a' w'→K a' w'):o.wp cx.P a w K Q:=by
 obtain⟨callee,args,ts⟩:=c
 unfold ZT at h
 simp only at h
 split at h
 ·simp only[obi,omi] at h
  obtain⟨x,hx0,d,hd,t,ht,st,hst,x',hx,rfl⟩:=h
  have hst':∃e,cx.P.underlying t=some (if st then .string else .slice e):=by
   unfold K7 at hst
   split at hst
   ·rename_i hu;cases hst;exact⟨0,by simpa using hu⟩
   ·rename_i e hu;cases hst;exact⟨e,by simpa using hu⟩
   ·cases hst
  obtain⟨e,hu⟩:=hst'
  have:=YT hx0
  subst this
  exact ze2 R hop ht hu (zf hd).1 (zf hd).2 hx he hK
 ·simp only[obi] at h
  obtain⟨xy,hxy,tu,htu,h⟩:=h
  split at h
  rotate_left
  ·simp only[obi] at h
   obtain⟨kn,hkn,d,hd,e,he',i,hi,z,hz,zs,hzs,h⟩:=h
   split at h
   rotate_left
   ·cases h
   rename_i hc
   simp only[obi,omi] at h
   obtain⟨x',hx,y',hy,rfl⟩:=h
   have h1:=ZA hxy
   have h2:=ZA htu
   subst h1
   subst h2
   exact zfj R hop (jb he') (x5 hkn) hi hz rfl hc.2 ⟨zs,_,hzs,rfl⟩ (by rw[JY];exact hc.1) rfl (zf hd).1 (zf hd).2 hx hy he hK
  rename_i heq
  simp only[obi] at h
  obtain⟨d,hd,e,he',i,hi,z,hz,h⟩:=h
  split at h
  rotate_left
  ·cases h
  rename_i hzs
  simp only[obi,omi] at h
  obtain⟨x',hx,y',hy,rfl⟩:=h
  have h1:=ZA hxy
  have h2:=ZA htu
  subst h1
  subst h2
  rw[←heq] at hop
  exact zeR R hop (jb he') hi hz rfl hzs rfl (zf hd).1 (zf hd).2 hx hy he hK
 ·simp only[obi,omi] at h
  obtain⟨xy,hxy,d,hd,x',hx,y',hy,rfl⟩:=h
  have h1:=ZA hxy
  subst h1
  exact zdX (mx:=true) R hop (zf hd).1 (zf hd).2 hx hy he hK
 ·simp only[obi,omi] at h
  obtain⟨xy,hxy,d,hd,x',hx,y',hy,rfl⟩:=h
  have h1:=ZA hxy
  subst h1
  exact zdX (mx:=false) R hop (zf hd).1 (zf hd).2 hx hy he hK
 ·simp only[obi] at h
  obtain⟨x,hx0,t,ht,e,he',i,hi,z,hz,zs,hzs,h⟩:=h
  split at h
  rotate_left
  ·cases h
  rename_i hc
  simp only[omi] at h
  obtain⟨x',hx,rfl⟩:=h
  have:=YT hx0
  subst this
  exact zdA R hop ht (jb he') hi hz rfl ⟨zs,_,hzs,rfl⟩ (by rw[JY];exact hc.1) hc.2.1 hc.2.2 hx he hK
 ·simp only[obi,omi] at h
  obtain⟨x,hx0,t,ht,d,hd,e,he',x',hx,rfl⟩:=h
  have:=YT hx0
  subst this
  exact zeH R hop ht (jb he') (zf hd).1 (zf hd).2 hx he hK
 ·simp only[obi,omi] at h
  obtain⟨xy,hxy,t,ht,d,hd,e,he',i,hi,x',hx,y',hy,rfl⟩:=h
  have h1:=ZA hxy
  subst h1
  exact zea R hop ht (jb he') hi rfl (zf hd).1 (zf hd).2 hx hy he hK
 ·simp only[obi,omi] at h
  obtain⟨d,hd,f',hf,xs',hxs,rfl⟩:=h
  simp[ev] at he
 ·cases h
theorem zei(R:zC cx m s a w){io:IOp}(h:JN cx.P cx.n o=some io){out:Out}(he:ev s io=some out)(hK:∀m' a' w',zC cx m' (s.app out) a' w'→K a' w'):o.wp cx.P a w K Q:=by
 unfold JN at h
 split at h
 ·rename_i x hop
  simp only[obi,omi] at h
  obtain⟨d,hd,x',hx,rfl⟩:=h
  exact zde R (.inl hop) (zf hd).1 (zf hd).2 hx he hK
 ·rename_i x hop
  simp only[obi,omi] at h
  obtain⟨d,hd,x',hx,rfl⟩:=h
  exact zde R (.inr hop) (zf hd).1 (zf hd).2 hx he hK
 ·rename_i c x y hop
  simp only[obi,omi] at h
  obtain⟨d,hd,c',hc,x',hx,y',hy,rfl⟩:=h
  simp only[ev] at he
  split at he
  ·rename_i t ht
   simp only[Option.some.injEq] at he
   subst he
   exact zeh R hop (zf hd).1 (zf hd).2 hc hx hy ht hK
  ·cases he
 ·rename_i e hop
  simp only[obi,omi] at h
  obtain⟨d,hd,zs,hz,rfl⟩:=h
  simp only[ev] at he
  split at he
  ·rename_i hs
   simp only[Option.some.injEq] at he
   subst he
   exact ze9 R hop (zf hd).1 (zf hd).2 hz hs hK
  ·cases he
 ·rename_i e x hop
  simp only[obi,omi] at h
  obtain⟨d,hd,x',hx,rfl⟩:=h
  simp only[ev] at he
  split at he
  ·rename_i hs
   simp only[omi] at he
   obtain⟨cs,hcs,rfl⟩:=he
   exact zfE R hop (zf hd).1 (zf hd).2 hx hcs hs hK
  ·cases he
 ·rename_i t ps hop
  simp only[obi] at h
  obtain⟨d,hd,fs,hfs,h⟩:=h
  split at h
  rotate_left
  ·cases h
  rename_i hall
  simp only[obi,omi] at h
  obtain⟨zs,hz,qs,hqs,rfl⟩:=h
  exact zdy R hop (ZP hfs) hz hall hqs (zf hd).1 (zf hd).2 he hK
 ·rename_i t len ps hop
  simp only[obi] at h
  obtain⟨d,hd,e,he',sz,hsz,zs,hz,h⟩:=h
  split at h
  rotate_left
  ·cases h
  rename_i hc
  simp only[omi] at h
  obtain⟨qs,hqs,rfl⟩:=h
  exact zcL R hop (jb he') hsz hc.1 hc.2.1 hz hc.2.2 hqs (zf hd).1 (zf hd).2 he hK
 ·rename_i t x hop
  simp only[obi,omi] at h
  obtain⟨d,hd,ag,hag,x',hx,rfl⟩:=h
  exact zd3 R hop (zf hd).1 (zf hd).2 hx hag he hK
 ·rename_i t x v hop
  split at h
  rotate_left
  ·cases h
  rename_i hd
  simp only[obi,omi] at h
  obtain⟨k,hk,x',hx,v',hv,rfl⟩:=h
  exact zdG R hop hd hx hv hk he hK
 ·rename_i x hop
  simp only[obi,omi] at h
  obtain⟨d,hd,x',hx,rfl⟩:=h
  exact zcQ R hop (zf hd).1 (zf hd).2 hx he hK
 ·rename_i op t x y u hop
  simp only[obi] at h
  obtain⟨d,hd,x',hx,h⟩:=h
  split at h
  ·rename_i hnil
   simp only[Bool.and_eq_true] at hnil
   have hy:y= .const (.slice none 0 0):=by
    have:=hnil.1
    unfold zbC at this
    split at this
    ·rfl
    ·cases this
   obtain⟨e,he'⟩:=Option.isSome_iff_exists.1 hnil.2
   rw[hy] at hop
   split at h
   ·cases h
    exact zaH (neg:=false) R hop rfl (jb he') (zf hd).1 (zf hd).2 hx he hK
   ·cases h
    exact zaH (neg:=true) R hop rfl (jb he') (zf hd).1 (zf hd).2 hx he hK
   ·cases h
  simp only[obi] at h
  obtain⟨y',hy,h⟩:=h
  split at h
  ·rename_i hfl
   unfold zdc at hfl
   split at hfl
   rotate_left
   ·cases hfl
   rename_i fs hfs
   simp only[Bool.and_eq_true,Bool.not_eq_true'] at hfl
   have hfo:fieldsOf cx.P t=some fs:=by unfold fieldsOf;rw[hfs]
   split at h
   ·rw[hfo] at h
    cases h
    exact zbA (neg:=false) R hop rfl hfs hfl.1.1 (by simp) hfl.1.2 hfl.2 (zf hd).1 (zf hd).2 hx hy he hK
   ·rw[hfo] at h
    cases h
    exact zbA (neg:=true) R hop rfl hfs hfl.1.1 (by simp) hfl.1.2 hfl.2 (zf hd).1 (zf hd).2 hx hy he hK
   ·cases h
  split at h
  ·rename_i hb
   split at h
   ·cases h
    exact zcY (neg:=false) R hop rfl (Xa hb) (zf hd).1 (zf hd).2 hx hy he hK
   ·cases h
    exact zcY (neg:=true) R hop rfl (Xa hb) (zf hd).1 (zf hd).2 hx hy he hK
   ·cases h
  ·cases h
   exact ze1 R hop (zf hd).1 (zf hd).2 hx hy he hK
 ·rename_i t x hop
  simp only[obi,omi] at h
  obtain⟨d,hd,x',hx,rfl⟩:=h
  exact zfC R hop (zf hd).1 (zf hd).2 hx he hK
 ·rename_i src dst x hop
  simp only[obi,omi] at h
  obtain⟨d,hd,k0,hk0,k,hk,x',hx,rfl⟩:=h
  exact zee R hop (x5 hk0) (x5 hk) (zf hd).1 (zf hd).2 hx he hK
 ·rename_i fn first caps hop
  simp only[obi] at h
  obtain⟨d,hd,f,hf,h⟩:=h
  split at h
  rotate_left
  ·cases h
  rename_i hfirst
  simp only[omi] at h
  obtain⟨cs,hcs,rfl⟩:=h
  have hop:o.op= .makeFunc (.func f) #[] caps:=by
   rw[hop]
   have:first=#[]:=Array.toList_inj.1 (by simpa using hfirst)
   subst this
   unfold zmf at hf
   split at hf<;>simp_all
  exact zeu R hop (zf hd).1 (zf hd).2 hcs he hK
 ·rename_i t l c hop
  simp only[obi] at h
  obtain⟨d,hd,e,he',i,hi,z,hz,zs,hzs,h⟩:=h
  split at h
  rotate_left
  ·cases h
  rename_i hc
  simp only[obi,omi] at h
  obtain⟨l',hl,c',hcc,rfl⟩:=h
  exact zdP R hop (jb he') hi hz rfl ⟨zs,_,hzs,rfl⟩ (by rw[JY];exact hc.1) hc.2 rfl (zf hd).1 (zf hd).2 hl hcc he hK
 ·rename_i t x lo hi mx hop
  simp only[obi] at h
  obtain⟨d,hd,e,he',sz,hsz,x',hx,lo',hlo,hi',hhi,mx',hmx,h⟩:=h
  split at h
  rotate_left
  ·cases h
  rename_i hc
  cases h
  exact zdl R hop (jb he') hsz (zf hd).1 (zf hd).2 hx (Y0 hlo) (Y0 hhi) (Y0 hmx) hc he hK
 ·rename_i t x fi hop
  simp only[obi] at h
  obtain⟨d,hd,fs,hfs,f,hf,k,hk,h⟩:=h
  split at h
  ·cases h
  rename_i h0
  simp only[omi] at h
  obtain⟨x',hx,rfl⟩:=h
  exact zdn R hop (ZP hfs) hf hk h0 (zf hd).1 (zf hd).2 hx he hK
 ·rename_i t x fi hop
  simp only[obi,omi] at h
  obtain⟨d,hd,fs,hfs,f,hf,ag,hag,x',hx,rfl⟩:=h
  exact zdJ R hop (ZP hfs) hf hag (zf hd).1 (zf hd).2 hx he hK
 ·rename_i t x i hop
  simp only[obi,omi] at h
  obtain⟨d,hd,e,he',sz,hsz,x',hx,i',hi,rfl⟩:=h
  exact zdo R hop (jb he') hsz (zf hd).1 (zf hd).2 hx hi he hK
 ·rename_i x i hop
  simp only[obi,omi] at h
  obtain⟨d,hd,x',hx,rfl⟩:=h
  exact ze4 R hop (zf hd).1 (zf hd).2 hx he hK
 ·rename_i t x i hop
  simp only[obi] at h
  obtain⟨d,hd,st,hst,h⟩:=h
  split at h
  rotate_left
  ·cases h
  rename_i hs
  subst hs
  simp only[obi,omi] at h
  obtain⟨x',hx,i',hi,rfl⟩:=h
  exact zek R hop (by unfold K7 at hst;split at hst<;>simp_all) (zf hd).1 (zf hd).2 hx hi he hK
 ·rw[obi] at h
  obtain⟨_,_,h⟩:=h
  cases h
  cases he
 ·rw[obi] at h
  obtain⟨_,_,h⟩:=h
  cases h
  cases he
 ·rename_i c hop
  exact zcS R hop h he hK
 ·cases h
end Go.AW
