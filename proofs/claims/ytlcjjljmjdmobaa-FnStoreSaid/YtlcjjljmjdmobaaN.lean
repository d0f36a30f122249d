/- The model's operations turned into the compact ones: each does what the compact one says. Lemmas. Conditions: none. -/
import Derived.Test.YtlcjjljmjdmobaaLb
set_option linter.unusedVariables false
namespace Go.AW
def dstOf(n:Nat)(o:Oper):Option Nat:=o.dst.bind fun d=>if d < n then some d else none
def optOpds:Option Operand→Option (Option Opd)
 |none=>some none
 |some x=>(toOpd x).map some
def elemOf'(P:Program)(t:TypeId):Option TypeId:=match P.underlying t with
 |some (.slice e)=>some e
 |_=>none
def fieldsOf(P:Program)(t:TypeId):Option (Array Field):=match P.underlying t with
 |some (.struct fs)=>some fs
 |_=>none
def intOf'(P:Program)(t:TypeId):Option IntKind:=match P.underlying t with
 |some (.int k)=>some k
 |_=>none
def isStrT(P:Program)(t:TypeId):Option Bool:=match P.underlying t with
 |some .string=>some true
 |some (.slice _)=>some false
 |_=>none
def isBoolT(P:Program)(t:TypeId):Bool:=match P.underlying t with
 |some .bool=>true
 |_=>false
def shapeD(P:Program):Nat→TypeId→List D
 |0,_=>[]
 |n+1,t=>match P.underlying t with
  |some (.int k)=>[.int k 0]
  |some .bool=>[.bool false]
  |some .string=>[.str ByteArray.empty]
  |some (.slice e)=>[.sl ((szP P e).getD 0) []]
  |some (.struct fs)=>fs.toList.flatMap fun f=>shapeD P n f.type
  |_=>[.ptr []]
def isNilOpd:Operand→Bool
 | .const (.slice none 0 0)=>true
 |_=>false
def isFlatT(P:Program)(t:TypeId):Bool:=match P.underlying t with
 |some (.struct fs)=>flatFs P fs.toList 0&&!P.stoodInHeld t&&!P.eqGuardType P.depth t
 |_=>false
def fnOf:Fn→Option FuncId
 | .func f=>some f
 |_=>none
def oneOf{α:Type}:List α→Option α
 |[x]=>some x
 |_=>none
def twoOf{α:Type}:List α→Option (α×α)
 |[x,y]=>some (x,y)
 |_=>none
def toCall(P:Program)(n:Nat)(o:Oper)(c:Call):Option IOp:=
 match c.callee with
 | .builtin .len=>(oneOf c.args.toList).bind fun x=>(dstOf n o).bind fun d=>c.argTypes[0]?.bind fun t=>(isStrT P t).bind fun st=>(toOpd x).map (.len d st)
 | .builtin .append=>(twoOf c.args.toList).bind fun xy=>(twoOf c.argTypes.toList).bind fun tu=>if tu.1=tu.2 then(dstOf n o).bind fun d=>(elemOf' P tu.1).bind fun e=>(P.info? e).bind fun i=>i.zero.bind fun z=>
   if z.cells.size=i.size then(toOpd xy.1).bind fun x=>(toOpd xy.2).map (.app d i.size i.bytes (shapeD P 8 e) x) else none else(intOf' P tu.2).bind fun _=>(dstOf n o).bind fun d=>(elemOf' P tu.1).bind fun e=>(P.info? e).bind fun i=>i.zero.bind fun z=>(z.cells.toList.mapM constD).bind fun zs=>
   if zs.length=i.size∧i.size≠0 then(toOpd xy.1).bind fun x=>(toOpd xy.2).map (.apm d i.size i.bytes (fixZs zs (shapeD P 8 e)) x) else none
 | .builtin .max=>(twoOf c.args.toList).bind fun xy=>(dstOf n o).bind fun d=>(toOpd xy.1).bind fun x=>(toOpd xy.2).map (.mm d true x)
 | .builtin .min=>(twoOf c.args.toList).bind fun xy=>(dstOf n o).bind fun d=>(toOpd xy.1).bind fun x=>(toOpd xy.2).map (.mm d false x)
 | .builtin .clear=>(oneOf c.args.toList).bind fun x=>c.argTypes[0]?.bind fun t=>(elemOf' P t).bind fun e=>(P.info? e).bind fun i=>i.zero.bind fun z=>(z.cells.toList.mapM constD).bind fun zs=>
   if zs.length=i.size∧i.size≠0∧o.dst=none then(toOpd x).map (.clear i.size (fixZs zs (shapeD P 8 e))) else none
 | .builtin .cap=>(oneOf c.args.toList).bind fun x=>c.argTypes[0]?.bind fun t=>(dstOf n o).bind fun d=>(elemOf' P t).bind fun _=>(toOpd x).map (.cap d)
 | .builtin .copy=>(twoOf c.args.toList).bind fun xy=>c.argTypes[0]?.bind fun t=>(dstOf n o).bind fun d=>(elemOf' P t).bind fun e=>(P.info? e).bind fun i=>(toOpd xy.1).bind fun x=>(toOpd xy.2).map (.copy d i.size x)
 | .value f=>(dstOf n o).bind fun d=>(toOpd f).bind fun f=>(c.args.toList.mapM toOpd).map (.callv d f)
 |_=>none
def noDst(o:Oper):Option Unit:=if o.dst=none then some () else none
def toOp(P:Program)(n:Nat)(o:Oper):Option IOp:=
 match o.op with
 | .move x=>(dstOf n o).bind fun d=>(toOpd x).map (.mov d)
 | .assign x=>(dstOf n o).bind fun d=>(toOpd x).map (.mov d)
 | .pick c x y=>(dstOf n o).bind fun d=>(toOpd c).bind fun c=>(toOpd x).bind fun x=>(toOpd y).map (.pick d c x)
 | .alloc e=>(dstOf n o).bind fun d=>(zeroC P e).map (.var d)
 | .box _ x=>(dstOf n o).bind fun d=>(toOpd x).map (.box d)
 | .build t ps=>(dstOf n o).bind fun d=>(fieldsOf P t).bind fun fs=>if fs.toList.all (fun f=>(szP P f.type).isSome) then(zeroC P t).bind fun zs=>(toParts (fieldPlaces P fs) ps.toList).map (.build d zs) else none
 | .buildSlice t len ps=>(dstOf n o).bind fun d=>(elemOf' P t).bind fun e=>(szP P e).bind fun sz=>(zeroC P e).bind fun zs=>
   if 0 < sz∧len * sz≤1024∧zs.length=sz then(toParts (fun i=>some (i * sz,sz)) ps.toList).map (.bslice d sz (List.replicate len zs).flatten) else none
 | .load t x=>(dstOf n o).bind fun d=>(agOf P t).bind fun ag=>(toOpd x).map (.load d ag)
 | .store t x v=>if o.dst=none then(szP P t).bind fun k=>(toOpd x).bind fun x=>(toOpd v).map (.store k (shapeD P 8 t) x) else none
 | .nilCheck x=>(dstOf n o).bind fun d=>(toOpd x).map (.nilchk d)
 | .binOp op t x y _=>(dstOf n o).bind fun d=>(toOpd x).bind fun x'=>if isNilOpd y&&(elemOf' P t).isSome then(match op with| .eql=>some (.isnil d false x')| .neq=>some (.isnil d true x')|_=>none) else(toOpd y).bind fun y=>let x:=x'
   if isFlatT P t then(match op with| .eql=>(fieldsOf P t).map fun fs=> .seql d false fs.size x y| .neq=>(fieldsOf P t).map fun fs=> .seql d true fs.size x y|_=>none) else
   if isBoolT P t then(match op with| .eql=>some (.beq d false x y)| .neq=>some (.beq d true x y)|_=>none) else some (.bin d op x y)
 | .unOp .not _ x=>(dstOf n o).bind fun d=>(toOpd x).map (.inv d)
 | .convert src dst x=>(dstOf n o).bind fun d=>(intOf' P src).bind fun _=>(intOf' P dst).bind fun k=>(toOpd x).map (.conv d k)
 | .makeFunc fn first caps=>(dstOf n o).bind fun d=>(fnOf fn).bind fun f=>if first.toList=[] then(caps.toList.mapM toOpd).map (.mkfn d f) else none
 | .makeSlice t l c=>(dstOf n o).bind fun d=>(elemOf' P t).bind fun e=>(P.info? e).bind fun i=>i.zero.bind fun z=>(z.cells.toList.mapM constD).bind fun zs=>
   if zs.length=i.size∧i.size≠0 then(toOpd l).bind fun l=>(toOpd c).map (.mksl d i.size i.bytes (fixZs zs (shapeD P 8 e)) l) else none
 | .slice t x lo hi mx=>(dstOf n o).bind fun d=>(elemOf' P t).bind fun e=>(szP P e).bind fun sz=>(toOpd x).bind fun x=>(optOpds lo).bind fun lo=>(optOpds hi).bind fun hi=>(optOpds mx).bind fun mx=>
   if mx.isSome→hi.isSome then some (.slice d sz x lo hi mx) else none
 | .fieldAddr t x fi=>(dstOf n o).bind fun d=>(fieldsOf P t).bind fun fs=>fs[fi]?.bind fun f=>(szP P f.type).bind fun k=>if k=0 then none else(toOpd x).map (.faddr d f.offset)
 | .field t x fi=>(dstOf n o).bind fun d=>(fieldsOf P t).bind fun fs=>fs[fi]?.bind fun f=>(agOf P f.type).bind fun ag=>(toOpd x).map (.field d f.offset ag)
 | .indexAddr t x i=>(dstOf n o).bind fun d=>(elemOf' P t).bind fun e=>(szP P e).bind fun sz=>(toOpd x).bind fun x=>(toOpd i).map (.iaddr d sz x)
 | .extract x i=>(dstOf n o).bind fun d=>(toOpd x).map fun x=> .ext d x i
 | .index t x i=>(dstOf n o).bind fun d=>(isStrT P t).bind fun st=>if st then(toOpd x).bind fun x=>(toOpd i).map (.sidx d x) else none
 | .makeInterface _ _=>(dstOf n o).bind fun d=>some (.dead (some d))
 | .panic _=>(noDst o).bind fun _=>some (.dead none)
 | .call c=>toCall P n o c
 |_=>none
theorem dstOf_spec{n d:Nat}{o:Oper}(h:dstOf n o=some d):o.dst=some d∧d < n:=by
 unfold dstOf at h
 cases ho:o.dst with
 |none=>rw[ho] at h;cases h
 |some k=>
  rw[ho] at h
  simp only[Option.bind_some] at h
  split at h
  ·rename_i hk
   cases h
   exact⟨rfl,hk⟩
  ·cases h
theorem elemOf_spec{P:Program}{t e:TypeId}(h:elemOf' P t=some e):P.underlying t=some (.slice e):=by
 unfold elemOf' at h;split at h<;>simp_all
theorem fieldsOf_spec{P:Program}{t:TypeId}{fs:Array Field}(h:fieldsOf P t=some fs):P.underlying t=some (.struct fs):=by
 unfold fieldsOf at h;split at h<;>simp_all
theorem intOf_spec{P:Program}{t:TypeId}{k:IntKind}(h:intOf' P t=some k):P.underlying t=some (.int k):=by
 unfold intOf' at h;split at h<;>simp_all
theorem isBoolT_spec{P:Program}{t:TypeId}(h:isBoolT P t=true):P.underlying t=some .bool:=by
 unfold isBoolT at h;split at h<;>simp_all
theorem optOpds_spec{x:Option Operand}{y:Option Opd}(h:optOpds x=some y):optOpd x y:=by
 cases x with
 |none=>simp[optOpds] at h;subst h;trivial
 |some x=>simp only[optOpds,omi] at h;obtain⟨z,hz,rfl⟩:=h;exact hz
theorem oneOf_spec{α:Type}{xs:Array α}{x:α}(h:oneOf xs.toList=some x):xs=#[x]:=by
 unfold oneOf at h
 split at h
 ·rename_i y e
  cases h
  exact Array.toList_inj.1 (by simpa using e)
 ·cases h
theorem twoOf_spec{α:Type}{xs:Array α}{p:α×α}(h:twoOf xs.toList=some p):xs=#[p.1,p.2]:=by
 unfold twoOf at h
 split at h
 ·rename_i x y e
  cases h
  exact Array.toList_inj.1 (by simpa using e)
 ·cases h
variable {cx:Cx} {m:M} {s:St} {a:Act} {w:World} {o:Oper} {K:Act→World→Prop} {Q:Exit→Act→World→Prop}
theorem call_sound(R:RelM cx m s a w){io:IOp}{c:Call}(hop:o.op= .call c)(h:toCall cx.P cx.n o c=some io){out:Out}(he:ev s io=some out)(hK:∀m' a' w',RelM cx m' (s.app out) a' w'→K a' w'):o.wp cx.P a w K Q:=by
 obtain⟨callee,args,ts⟩:=c
 unfold toCall at h
 simp only at h
 split at h
 ·simp only[obi,omi] at h
  obtain⟨x,hx0,d,hd,t,ht,st,hst,x',hx,rfl⟩:=h
  have hst':∃e,cx.P.underlying t=some (if st then .string else .slice e):=by
   unfold isStrT at hst
   split at hst
   ·rename_i hu;cases hst;exact⟨0,by simpa using hu⟩
   ·rename_i e hu;cases hst;exact⟨e,by simpa using hu⟩
   ·cases hst
  obtain⟨e,hu⟩:=hst'
  have:=oneOf_spec hx0
  subst this
  exact snd_len R hop ht hu (dstOf_spec hd).1 (dstOf_spec hd).2 hx he hK
 ·simp only[obi] at h
  obtain⟨xy,hxy,tu,htu,h⟩:=h
  split at h
  rotate_left
  ·simp only[obi] at h
   obtain⟨kn,hkn,d,hd,e,he',i,hi,z,hz,zs,hzs,h⟩:=h
   split at h
   rotate_left
   ·cases h
   rename_i hc
   simp only[obi,omi] at h
   obtain⟨x',hx,y',hy,rfl⟩:=h
   have h1:=twoOf_spec hxy
   have h2:=twoOf_spec htu
   subst h1
   subst h2
   exact snd_apm R hop (elemOf_spec he') (intOf_spec hkn) hi hz rfl hc.2 ⟨zs,_,hzs,rfl⟩ (by rw[fixZs_len];exact hc.1) rfl (dstOf_spec hd).1 (dstOf_spec hd).2 hx hy he hK
  rename_i heq
  simp only[obi] at h
  obtain⟨d,hd,e,he',i,hi,z,hz,h⟩:=h
  split at h
  rotate_left
  ·cases h
  rename_i hzs
  simp only[obi,omi] at h
  obtain⟨x',hx,y',hy,rfl⟩:=h
  have h1:=twoOf_spec hxy
  have h2:=twoOf_spec htu
  subst h1
  subst h2
  rw[←heq] at hop
  exact snd_app R hop (elemOf_spec he') hi hz rfl hzs rfl (dstOf_spec hd).1 (dstOf_spec hd).2 hx hy he hK
 ·simp only[obi,omi] at h
  obtain⟨xy,hxy,d,hd,x',hx,y',hy,rfl⟩:=h
  have h1:=twoOf_spec hxy
  subst h1
  exact snd_mm (mx:=true) R hop (dstOf_spec hd).1 (dstOf_spec hd).2 hx hy he hK
 ·simp only[obi,omi] at h
  obtain⟨xy,hxy,d,hd,x',hx,y',hy,rfl⟩:=h
  have h1:=twoOf_spec hxy
  subst h1
  exact snd_mm (mx:=false) R hop (dstOf_spec hd).1 (dstOf_spec hd).2 hx hy he hK
 ·simp only[obi] at h
  obtain⟨x,hx0,t,ht,e,he',i,hi,z,hz,zs,hzs,h⟩:=h
  split at h
  rotate_left
  ·cases h
  rename_i hc
  simp only[omi] at h
  obtain⟨x',hx,rfl⟩:=h
  have:=oneOf_spec hx0
  subst this
  exact snd_clear R hop ht (elemOf_spec he') hi hz rfl ⟨zs,_,hzs,rfl⟩ (by rw[fixZs_len];exact hc.1) hc.2.1 hc.2.2 hx he hK
 ·simp only[obi,omi] at h
  obtain⟨x,hx0,t,ht,d,hd,e,he',x',hx,rfl⟩:=h
  have:=oneOf_spec hx0
  subst this
  exact snd_cap R hop ht (elemOf_spec he') (dstOf_spec hd).1 (dstOf_spec hd).2 hx he hK
 ·simp only[obi,omi] at h
  obtain⟨xy,hxy,t,ht,d,hd,e,he',i,hi,x',hx,y',hy,rfl⟩:=h
  have h1:=twoOf_spec hxy
  subst h1
  exact snd_copy R hop ht (elemOf_spec he') hi rfl (dstOf_spec hd).1 (dstOf_spec hd).2 hx hy he hK
 ·simp only[obi,omi] at h
  obtain⟨d,hd,f',hf,xs',hxs,rfl⟩:=h
  simp[ev] at he
 ·cases h
theorem ev_sound(R:RelM cx m s a w){io:IOp}(h:toOp cx.P cx.n o=some io){out:Out}(he:ev s io=some out)(hK:∀m' a' w',RelM cx m' (s.app out) a' w'→K a' w'):o.wp cx.P a w K Q:=by
 unfold toOp at h
 split at h
 ·rename_i x hop
  simp only[obi,omi] at h
  obtain⟨d,hd,x',hx,rfl⟩:=h
  exact snd_mov R (.inl hop) (dstOf_spec hd).1 (dstOf_spec hd).2 hx he hK
 ·rename_i x hop
  simp only[obi,omi] at h
  obtain⟨d,hd,x',hx,rfl⟩:=h
  exact snd_mov R (.inr hop) (dstOf_spec hd).1 (dstOf_spec hd).2 hx he hK
 ·rename_i c x y hop
  simp only[obi,omi] at h
  obtain⟨d,hd,c',hc,x',hx,y',hy,rfl⟩:=h
  simp only[ev] at he
  split at he
  ·rename_i t ht
   simp only[Option.some.injEq] at he
   subst he
   exact snd_pick R hop (dstOf_spec hd).1 (dstOf_spec hd).2 hc hx hy ht hK
  ·cases he
 ·rename_i e hop
  simp only[obi,omi] at h
  obtain⟨d,hd,zs,hz,rfl⟩:=h
  simp only[ev] at he
  split at he
  ·rename_i hs
   simp only[Option.some.injEq] at he
   subst he
   exact snd_var R hop (dstOf_spec hd).1 (dstOf_spec hd).2 hz hs hK
  ·cases he
 ·rename_i e x hop
  simp only[obi,omi] at h
  obtain⟨d,hd,x',hx,rfl⟩:=h
  simp only[ev] at he
  split at he
  ·rename_i hs
   simp only[omi] at he
   obtain⟨cs,hcs,rfl⟩:=he
   exact snd_box R hop (dstOf_spec hd).1 (dstOf_spec hd).2 hx hcs hs hK
  ·cases he
 ·rename_i t ps hop
  simp only[obi] at h
  obtain⟨d,hd,fs,hfs,h⟩:=h
  split at h
  rotate_left
  ·cases h
  rename_i hall
  simp only[obi,omi] at h
  obtain⟨zs,hz,qs,hqs,rfl⟩:=h
  exact snd_build R hop (fieldsOf_spec hfs) hz hall hqs (dstOf_spec hd).1 (dstOf_spec hd).2 he hK
 ·rename_i t len ps hop
  simp only[obi] at h
  obtain⟨d,hd,e,he',sz,hsz,zs,hz,h⟩:=h
  split at h
  rotate_left
  ·cases h
  rename_i hc
  simp only[omi] at h
  obtain⟨qs,hqs,rfl⟩:=h
  exact snd_bslice R hop (elemOf_spec he') hsz hc.1 hc.2.1 hz hc.2.2 hqs (dstOf_spec hd).1 (dstOf_spec hd).2 he hK
 ·rename_i t x hop
  simp only[obi,omi] at h
  obtain⟨d,hd,ag,hag,x',hx,rfl⟩:=h
  exact snd_load R hop (dstOf_spec hd).1 (dstOf_spec hd).2 hx hag he hK
 ·rename_i t x v hop
  split at h
  rotate_left
  ·cases h
  rename_i hd
  simp only[obi,omi] at h
  obtain⟨k,hk,x',hx,v',hv,rfl⟩:=h
  exact snd_store R hop hd hx hv hk he hK
 ·rename_i x hop
  simp only[obi,omi] at h
  obtain⟨d,hd,x',hx,rfl⟩:=h
  exact snd_nilchk R hop (dstOf_spec hd).1 (dstOf_spec hd).2 hx he hK
 ·rename_i op t x y u hop
  simp only[obi] at h
  obtain⟨d,hd,x',hx,h⟩:=h
  split at h
  ·rename_i hnil
   simp only[Bool.and_eq_true] at hnil
   have hy:y= .const (.slice none 0 0):=by
    have:=hnil.1
    unfold isNilOpd at this
    split at this
    ·rfl
    ·cases this
   obtain⟨e,he'⟩:=Option.isSome_iff_exists.1 hnil.2
   rw[hy] at hop
   split at h
   ·cases h
    exact snd_isnil (neg:=false) R hop rfl (elemOf_spec he') (dstOf_spec hd).1 (dstOf_spec hd).2 hx he hK
   ·cases h
    exact snd_isnil (neg:=true) R hop rfl (elemOf_spec he') (dstOf_spec hd).1 (dstOf_spec hd).2 hx he hK
   ·cases h
  simp only[obi] at h
  obtain⟨y',hy,h⟩:=h
  split at h
  ·rename_i hfl
   unfold isFlatT at hfl
   split at hfl
   rotate_left
   ·cases hfl
   rename_i fs hfs
   simp only[Bool.and_eq_true,Bool.not_eq_true'] at hfl
   have hfo:fieldsOf cx.P t=some fs:=by unfold fieldsOf;rw[hfs]
   split at h
   ·rw[hfo] at h
    cases h
    exact snd_seql (neg:=false) R hop rfl hfs hfl.1.1 (by simp) hfl.1.2 hfl.2 (dstOf_spec hd).1 (dstOf_spec hd).2 hx hy he hK
   ·rw[hfo] at h
    cases h
    exact snd_seql (neg:=true) R hop rfl hfs hfl.1.1 (by simp) hfl.1.2 hfl.2 (dstOf_spec hd).1 (dstOf_spec hd).2 hx hy he hK
   ·cases h
  split at h
  ·rename_i hb
   split at h
   ·cases h
    exact snd_beq (neg:=false) R hop rfl (isBoolT_spec hb) (dstOf_spec hd).1 (dstOf_spec hd).2 hx hy he hK
   ·cases h
    exact snd_beq (neg:=true) R hop rfl (isBoolT_spec hb) (dstOf_spec hd).1 (dstOf_spec hd).2 hx hy he hK
   ·cases h
  ·cases h
   exact snd_bin R hop (dstOf_spec hd).1 (dstOf_spec hd).2 hx hy he hK
 ·rename_i t x hop
  simp only[obi,omi] at h
  obtain⟨d,hd,x',hx,rfl⟩:=h
  exact snd_inv R hop (dstOf_spec hd).1 (dstOf_spec hd).2 hx he hK
 ·rename_i src dst x hop
  simp only[obi,omi] at h
  obtain⟨d,hd,k0,hk0,k,hk,x',hx,rfl⟩:=h
  exact snd_conv R hop (intOf_spec hk0) (intOf_spec hk) (dstOf_spec hd).1 (dstOf_spec hd).2 hx he hK
 ·rename_i fn first caps hop
  simp only[obi] at h
  obtain⟨d,hd,f,hf,h⟩:=h
  split at h
  rotate_left
  ·cases h
  rename_i hfirst
  simp only[omi] at h
  obtain⟨cs,hcs,rfl⟩:=h
  have hop:o.op= .makeFunc (.func f) #[] caps:=by
   rw[hop]
   have:first=#[]:=Array.toList_inj.1 (by simpa using hfirst)
   subst this
   unfold fnOf at hf
   split at hf<;>simp_all
  exact snd_mkfn R hop (dstOf_spec hd).1 (dstOf_spec hd).2 hcs he hK
 ·rename_i t l c hop
  simp only[obi] at h
  obtain⟨d,hd,e,he',i,hi,z,hz,zs,hzs,h⟩:=h
  split at h
  rotate_left
  ·cases h
  rename_i hc
  simp only[obi,omi] at h
  obtain⟨l',hl,c',hcc,rfl⟩:=h
  exact snd_mksl R hop (elemOf_spec he') hi hz rfl ⟨zs,_,hzs,rfl⟩ (by rw[fixZs_len];exact hc.1) hc.2 rfl (dstOf_spec hd).1 (dstOf_spec hd).2 hl hcc he hK
 ·rename_i t x lo hi mx hop
  simp only[obi] at h
  obtain⟨d,hd,e,he',sz,hsz,x',hx,lo',hlo,hi',hhi,mx',hmx,h⟩:=h
  split at h
  rotate_left
  ·cases h
  rename_i hc
  cases h
  exact snd_slice R hop (elemOf_spec he') hsz (dstOf_spec hd).1 (dstOf_spec hd).2 hx (optOpds_spec hlo) (optOpds_spec hhi) (optOpds_spec hmx) hc he hK
 ·rename_i t x fi hop
  simp only[obi] at h
  obtain⟨d,hd,fs,hfs,f,hf,k,hk,h⟩:=h
  split at h
  ·cases h
  rename_i h0
  simp only[omi] at h
  obtain⟨x',hx,rfl⟩:=h
  exact snd_faddr R hop (fieldsOf_spec hfs) hf hk h0 (dstOf_spec hd).1 (dstOf_spec hd).2 hx he hK
 ·rename_i t x fi hop
  simp only[obi,omi] at h
  obtain⟨d,hd,fs,hfs,f,hf,ag,hag,x',hx,rfl⟩:=h
  exact snd_field R hop (fieldsOf_spec hfs) hf hag (dstOf_spec hd).1 (dstOf_spec hd).2 hx he hK
 ·rename_i t x i hop
  simp only[obi,omi] at h
  obtain⟨d,hd,e,he',sz,hsz,x',hx,i',hi,rfl⟩:=h
  exact snd_iaddr R hop (elemOf_spec he') hsz (dstOf_spec hd).1 (dstOf_spec hd).2 hx hi he hK
 ·rename_i x i hop
  simp only[obi,omi] at h
  obtain⟨d,hd,x',hx,rfl⟩:=h
  exact snd_ext R hop (dstOf_spec hd).1 (dstOf_spec hd).2 hx he hK
 ·rename_i t x i hop
  simp only[obi] at h
  obtain⟨d,hd,st,hst,h⟩:=h
  split at h
  rotate_left
  ·cases h
  rename_i hs
  subst hs
  simp only[obi,omi] at h
  obtain⟨x',hx,i',hi,rfl⟩:=h
  exact snd_sidx R hop (by unfold isStrT at hst;split at hst<;>simp_all) (dstOf_spec hd).1 (dstOf_spec hd).2 hx hi he hK
 ·rw[obi] at h
  obtain⟨_,_,h⟩:=h
  cases h
  cases he
 ·rw[obi] at h
  obtain⟨_,_,h⟩:=h
  cases h
  cases he
 ·rename_i c hop
  exact call_sound R hop h he hK
 ·cases h
end Go.AW
