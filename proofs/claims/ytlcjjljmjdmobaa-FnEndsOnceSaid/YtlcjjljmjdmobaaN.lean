/- The model's operations turned into the compact ones: each does what the compact one says. Lemmas. Conditions: none. -/
import Derived.Test.YtlcjjljmjdmobaaLb
set_option linter.unusedVariables false
namespace Go.AW
def yB(n:Nat)(o:Oper):Option Nat:=o.dst.bind fun d=>if d < n then some d else none
def ku:Option Operand→Option (Option Opd)
 |none=>some none
 |some x=>(zK x).map some
def Js(P:Program)(t:TypeId):Option TypeId:=match P.underlying t with
 |some (.slice e)=>some e
 |_=>none
def fieldsOf(P:Program)(t:TypeId):Option (Array Field):=match P.underlying t with
 |some (.struct fs)=>some fs
 |_=>none
def zaH(P:Program)(t:TypeId):Option IntKind:=match P.underlying t with
 |some (.int k)=>some k
 |_=>none
def zaL(P:Program)(t:TypeId):Option Bool:=match P.underlying t with
 |some .string=>some true
 |some (.slice _)=>some false
 |_=>none
def zbW(P:Program)(t:TypeId):Bool:=match P.underlying t with
 |some .bool=>true
 |_=>false
def Kb(P:Program):Nat→TypeId→List D
 |0,_=>[]
 |n+1,t=>match P.underlying t with
  |some (.int k)=>[.int k 0]
  |some .bool=>[.bool false]
  |some .string=>[.str ByteArray.empty]
  |some (.slice e)=>[.sl ((szP P e).getD 0) []]
  |some (.struct fs)=>fs.toList.flatMap fun f=>Kb P n f.type
  |_=>[.ptr []]
def zch:Operand→Bool
 | .const (.slice none 0 0)=>true
 |_=>false
def zd2(P:Program)(t:TypeId):Bool:=match P.underlying t with
 |some (.struct fs)=>zaa P fs.toList 0&&!P.stoodInHeld t&&!P.eqGuardType P.depth t
 |_=>false
def zoi:Fn→Option FuncId
 | .func f=>some f
 |_=>none
def zcD{α:Type}:List α→Option α
 |[x]=>some x
 |_=>none
def zap{α:Type}:List α→Option (α×α)
 |[x,y]=>some (x,y)
 |_=>none
def Qs(P:Program)(n:Nat)(o:Oper)(c:Call):Option IOp:=
 match c.callee with
 | .builtin .len=>(zcD c.args.toList).bind fun x=>(yB n o).bind fun d=>c.argTypes[0]?.bind fun t=>(zaL P t).bind fun st=>(zK x).map (.len d st)
 | .builtin .append=>(zap c.args.toList).bind fun xy=>(zap c.argTypes.toList).bind fun tu=>if tu.1=tu.2 then(yB n o).bind fun d=>(Js P tu.1).bind fun e=>(P.info? e).bind fun i=>i.zero.bind fun z=>
   if z.cells.size=i.size then(zK xy.1).bind fun x=>(zK xy.2).map (.app d i.size i.bytes (Kb P 8 e) x) else none else(zaH P tu.2).bind fun _=>(yB n o).bind fun d=>(Js P tu.1).bind fun e=>(P.info? e).bind fun i=>i.zero.bind fun z=>(z.cells.toList.mapM kd).bind fun zs=>
   if zs.length=i.size∧i.size≠0 then(zK xy.1).bind fun x=>(zK xy.2).map (.apm d i.size i.bytes (Q3 zs (Kb P 8 e)) x) else none
 | .builtin .max=>(zap c.args.toList).bind fun xy=>(yB n o).bind fun d=>(zK xy.1).bind fun x=>(zK xy.2).map (.mm d true x)
 | .builtin .min=>(zap c.args.toList).bind fun xy=>(yB n o).bind fun d=>(zK xy.1).bind fun x=>(zK xy.2).map (.mm d false x)
 | .builtin .clear=>(zcD c.args.toList).bind fun x=>c.argTypes[0]?.bind fun t=>(Js P t).bind fun e=>(P.info? e).bind fun i=>i.zero.bind fun z=>(z.cells.toList.mapM kd).bind fun zs=>
   if zs.length=i.size∧i.size≠0∧o.dst=none then(zK x).map (.clear i.size (Q3 zs (Kb P 8 e))) else none
 | .builtin .cap=>(zcD c.args.toList).bind fun x=>c.argTypes[0]?.bind fun t=>(yB n o).bind fun d=>(Js P t).bind fun _=>(zK x).map (.cap d)
 | .builtin .copy=>(zap c.args.toList).bind fun xy=>c.argTypes[0]?.bind fun t=>(yB n o).bind fun d=>(Js P t).bind fun e=>(P.info? e).bind fun i=>(zK xy.1).bind fun x=>(zK xy.2).map (.copy d i.size x)
 | .value f=>(yB n o).bind fun d=>(zK f).bind fun f=>(c.args.toList.mapM zK).map (.callv d f)
 |_=>none
def zgK(o:Oper):Option Unit:=if o.dst=none then some () else none
def Yy(P:Program)(n:Nat)(o:Oper):Option IOp:=
 match o.op with
 | .move x=>(yB n o).bind fun d=>(zK x).map (.mov d)
 | .assign x=>(yB n o).bind fun d=>(zK x).map (.mov d)
 | .pick c x y=>(yB n o).bind fun d=>(zK c).bind fun c=>(zK x).bind fun x=>(zK y).map (.pick d c x)
 | .alloc e=>(yB n o).bind fun d=>(xJ P e).map (.var d)
 | .box _ x=>(yB n o).bind fun d=>(zK x).map (.box d)
 | .build t ps=>(yB n o).bind fun d=>(fieldsOf P t).bind fun fs=>if fs.toList.all (fun f=>(szP P f.type).isSome) then(xJ P t).bind fun zs=>(Yj (JA P fs) ps.toList).map (.build d zs) else none
 | .buildSlice t len ps=>(yB n o).bind fun d=>(Js P t).bind fun e=>(szP P e).bind fun sz=>(xJ P e).bind fun zs=>
   if 0 < sz∧len * sz≤1024∧zs.length=sz then(Yj (fun i=>some (i * sz,sz)) ps.toList).map (.bslice d sz (List.replicate len zs).flatten) else none
 | .load t x=>(yB n o).bind fun d=>(zb9 P t).bind fun ag=>(zK x).map (.load d ag)
 | .store t x v=>if o.dst=none then(szP P t).bind fun k=>(zK x).bind fun x=>(zK v).map (.store k (Kb P 8 t) x) else none
 | .nilCheck x=>(yB n o).bind fun d=>(zK x).map (.nilchk d)
 | .binOp op t x y _=>(yB n o).bind fun d=>(zK x).bind fun x'=>if zch y&&(Js P t).isSome then(match op with| .eql=>some (.isnil d false x')| .neq=>some (.isnil d true x')|_=>none) else(zK y).bind fun y=>let x:=x'
   if zd2 P t then(match op with| .eql=>(fieldsOf P t).map fun fs=> .seql d false fs.size x y| .neq=>(fieldsOf P t).map fun fs=> .seql d true fs.size x y|_=>none) else
   if zbW P t then(match op with| .eql=>some (.beq d false x y)| .neq=>some (.beq d true x y)|_=>none) else some (.bin d op x y)
 | .unOp .not _ x=>(yB n o).bind fun d=>(zK x).map (.inv d)
 | .convert src dst x=>(yB n o).bind fun d=>(zaH P src).bind fun _=>(zaH P dst).bind fun k=>(zK x).map (.conv d k)
 | .makeFunc fn first caps=>(yB n o).bind fun d=>(zoi fn).bind fun f=>if first.toList=[] then(caps.toList.mapM zK).map (.mkfn d f) else none
 | .makeSlice t l c=>(yB n o).bind fun d=>(Js P t).bind fun e=>(P.info? e).bind fun i=>i.zero.bind fun z=>(z.cells.toList.mapM kd).bind fun zs=>
   if zs.length=i.size∧i.size≠0 then(zK l).bind fun l=>(zK c).map (.mksl d i.size i.bytes (Q3 zs (Kb P 8 e)) l) else none
 | .slice t x lo hi mx=>(yB n o).bind fun d=>(Js P t).bind fun e=>(szP P e).bind fun sz=>(zK x).bind fun x=>(ku lo).bind fun lo=>(ku hi).bind fun hi=>(ku mx).bind fun mx=>
   if mx.isSome→hi.isSome then some (.slice d sz x lo hi mx) else none
 | .fieldAddr t x fi=>(yB n o).bind fun d=>(fieldsOf P t).bind fun fs=>fs[fi]?.bind fun f=>(szP P f.type).bind fun k=>if k=0 then none else(zK x).map (.faddr d f.offset)
 | .field t x fi=>(yB n o).bind fun d=>(fieldsOf P t).bind fun fs=>fs[fi]?.bind fun f=>(zb9 P f.type).bind fun ag=>(zK x).map (.field d f.offset ag)
 | .indexAddr t x i=>(yB n o).bind fun d=>(Js P t).bind fun e=>(szP P e).bind fun sz=>(zK x).bind fun x=>(zK i).map (.iaddr d sz x)
 | .extract x i=>(yB n o).bind fun d=>(zK x).map fun x=> .ext d x i
 | .index t x i=>(yB n o).bind fun d=>(zaL P t).bind fun st=>if st then(zK x).bind fun x=>(zK i).map (.sidx d x) else none
 | .makeInterface _ _=>(yB n o).bind fun d=>some (.dead (some d))
 | .panic _=>(zgK o).bind fun _=>some (.dead none)
 | .call c=>Qs P n o c
 |_=>none
theorem zm{n d:Nat}{o:Oper}(h:yB n o=some d):o.dst=some d∧d < n:=by
 unfold yB at h
 cases ho:o.dst with
 |none=>rw[ho] at h;cases h
 |some k=>
  rw[ho] at h
  simp only[Option.bind_some] at h
  split at h
  ·rename_i hk
   cases h
   exact⟨rfl,hk⟩
  ·cases h
theorem jy{P:Program}{t e:TypeId}(h:Js P t=some e):P.underlying t=some (.slice e):=by
 unfold Js at h;split at h<;>simp_all
theorem Qp{P:Program}{t:TypeId}{fs:Array Field}(h:fieldsOf P t=some fs):P.underlying t=some (.struct fs):=by
 unfold fieldsOf at h;split at h<;>simp_all
theorem Xm{P:Program}{t:TypeId}{k:IntKind}(h:zaH P t=some k):P.underlying t=some (.int k):=by
 unfold zaH at h;split at h<;>simp_all
theorem XK{P:Program}{t:TypeId}(h:zbW P t=true):P.underlying t=some .bool:=by
 unfold zbW at h;split at h<;>simp_all
theorem xt{x:Option Operand}{y:Option Opd}(h:ku x=some y):KW x y:=by
 cases x with
 |none=>simp[ku] at h;subst h;trivial
 |some x=>simp only[ku,omi] at h;obtain⟨z,hz,rfl⟩:=h;exact hz
theorem xB{α:Type}{xs:Array α}{x:α}(h:zcD xs.toList=some x):xs=#[x]:=by
 unfold zcD at h
 split at h
 ·rename_i y e
  cases h
  exact Array.toList_inj.1 (by simpa using e)
 ·cases h
theorem Qc{α:Type}{xs:Array α}{p:α×α}(h:zap xs.toList=some p):xs=#[p.1,p.2]:=by
 unfold zap at h
 split at h
 ·rename_i x y e
  cases h
  exact Array.toList_inj.1 (by simpa using e)
 ·cases h
variable {cx:Cx} {m:M} {s:St} {a:Act} {w:World} {o:Oper} {K:Act→World→Prop} {Q:Exit→Act→World→Prop}
theorem zdn(R:zE cx m s a w){io:IOp}{c:Call}(hop:o.op= .call c)(h:Qs cx.P cx.n o c=some io){out:Out}(he:ev s io=some out)(hK:∀m' a' w',zE cx m' (s.app out) a' w'→K a' w'):o.wp cx.P a w K Q:=by
 obtain⟨callee,args,ts⟩:=c
 unfold Qs at h
 simp only at h
 split at h
 ·simp only[obi,omi] at h
  obtain⟨x,hx0,d,hd,t,ht,st,hst,x',hx,rfl⟩:=h
  have hst':∃e,cx.P.underlying t=some (if st then .string else .slice e):=by
   unfold zaL at hst
   split at hst
   ·rename_i hu;cases hst;exact⟨0,by simpa using hu⟩
   ·rename_i e hu;cases hst;exact⟨e,by simpa using hu⟩
   ·cases hst
  obtain⟨e,hu⟩:=hst'
  have:=xB hx0
  subst this
  exact zfw R hop ht hu (zm hd).1 (zm hd).2 hx he hK
 ·simp only[obi] at h
  obtain⟨xy,hxy,tu,htu,h⟩:=h
  split at h
  rotate_left
  ·simp only[obi] at h
   obtain⟨kn,hkn,d,hd,e,he',i,hi,z,hz,zs,hzs,h⟩:=h
   split at h
   rotate_left
   ·cases h
   rename_i hc
   simp only[obi,omi] at h
   obtain⟨x',hx,y',hy,rfl⟩:=h
   have h1:=Qc hxy
   have h2:=Qc htu
   subst h1
   subst h2
   exact zgf R hop (jy he') (Xm hkn) hi hz rfl hc.2 ⟨zs,_,hzs,rfl⟩ (by rw[YJ];exact hc.1) rfl (zm hd).1 (zm hd).2 hx hy he hK
  rename_i heq
  simp only[obi] at h
  obtain⟨d,hd,e,he',i,hi,z,hz,h⟩:=h
  split at h
  rotate_left
  ·cases h
  rename_i hzs
  simp only[obi,omi] at h
  obtain⟨x',hx,y',hy,rfl⟩:=h
  have h1:=Qc hxy
  have h2:=Qc htu
  subst h1
  subst h2
  rw[←heq] at hop
  exact zfX R hop (jy he') hi hz rfl hzs rfl (zm hd).1 (zm hd).2 hx hy he hK
 ·simp only[obi,omi] at h
  obtain⟨xy,hxy,d,hd,x',hx,y',hy,rfl⟩:=h
  have h1:=Qc hxy
  subst h1
  exact ze8 (mx:=true) R hop (zm hd).1 (zm hd).2 hx hy he hK
 ·simp only[obi,omi] at h
  obtain⟨xy,hxy,d,hd,x',hx,y',hy,rfl⟩:=h
  have h1:=Qc hxy
  subst h1
  exact ze8 (mx:=false) R hop (zm hd).1 (zm hd).2 hx hy he hK
 ·simp only[obi] at h
  obtain⟨x,hx0,t,ht,e,he',i,hi,z,hz,zs,hzs,h⟩:=h
  split at h
  rotate_left
  ·cases h
  rename_i hc
  simp only[omi] at h
  obtain⟨x',hx,rfl⟩:=h
  have:=xB hx0
  subst this
  exact zew R hop ht (jy he') hi hz rfl ⟨zs,_,hzs,rfl⟩ (by rw[YJ];exact hc.1) hc.2.1 hc.2.2 hx he hK
 ·simp only[obi,omi] at h
  obtain⟨x,hx0,t,ht,d,hd,e,he',x',hx,rfl⟩:=h
  have:=xB hx0
  subst this
  exact zfA R hop ht (jy he') (zm hd).1 (zm hd).2 hx he hK
 ·simp only[obi,omi] at h
  obtain⟨xy,hxy,t,ht,d,hd,e,he',i,hi,x',hx,y',hy,rfl⟩:=h
  have h1:=Qc hxy
  subst h1
  exact ze4 R hop ht (jy he') hi rfl (zm hd).1 (zm hd).2 hx hy he hK
 ·simp only[obi,omi] at h
  obtain⟨d,hd,f',hf,xs',hxs,rfl⟩:=h
  simp[ev] at he
 ·cases h
theorem zeX(R:zE cx m s a w){io:IOp}(h:Yy cx.P cx.n o=some io){out:Out}(he:ev s io=some out)(hK:∀m' a' w',zE cx m' (s.app out) a' w'→K a' w'):o.wp cx.P a w K Q:=by
 unfold Yy at h
 split at h
 ·rename_i x hop
  simp only[obi,omi] at h
  obtain⟨d,hd,x',hx,rfl⟩:=h
  exact zd1 R (.inl hop) (zm hd).1 (zm hd).2 hx he hK
 ·rename_i x hop
  simp only[obi,omi] at h
  obtain⟨d,hd,x',hx,rfl⟩:=h
  exact zd1 R (.inr hop) (zm hd).1 (zm hd).2 hx he hK
 ·rename_i c x y hop
  simp only[obi,omi] at h
  obtain⟨d,hd,c',hc,x',hx,y',hy,rfl⟩:=h
  simp only[ev] at he
  split at he
  ·rename_i t ht
   simp only[Option.some.injEq] at he
   subst he
   exact ze1 R hop (zm hd).1 (zm hd).2 hc hx hy ht hK
  ·cases he
 ·rename_i e hop
  simp only[obi,omi] at h
  obtain⟨d,hd,zs,hz,rfl⟩:=h
  simp only[ev] at he
  split at he
  ·rename_i hs
   simp only[Option.some.injEq] at he
   subst he
   exact zf1 R hop (zm hd).1 (zm hd).2 hz hs hK
  ·cases he
 ·rename_i e x hop
  simp only[obi,omi] at h
  obtain⟨d,hd,x',hx,rfl⟩:=h
  simp only[ev] at he
  split at he
  ·rename_i hs
   simp only[omi] at he
   obtain⟨cs,hcs,rfl⟩:=he
   exact zgC R hop (zm hd).1 (zm hd).2 hx hcs hs hK
  ·cases he
 ·rename_i t ps hop
  simp only[obi] at h
  obtain⟨d,hd,fs,hfs,h⟩:=h
  split at h
  rotate_left
  ·cases h
  rename_i hall
  simp only[obi,omi] at h
  obtain⟨zs,hz,qs,hqs,rfl⟩:=h
  exact zex R hop (Qp hfs) hz hall hqs (zm hd).1 (zm hd).2 he hK
 ·rename_i t len ps hop
  simp only[obi] at h
  obtain⟨d,hd,e,he',sz,hsz,zs,hz,h⟩:=h
  split at h
  rotate_left
  ·cases h
  rename_i hc
  simp only[omi] at h
  obtain⟨qs,hqs,rfl⟩:=h
  exact zdu R hop (jy he') hsz hc.1 hc.2.1 hz hc.2.2 hqs (zm hd).1 (zm hd).2 he hK
 ·rename_i t x hop
  simp only[obi,omi] at h
  obtain⟨d,hd,ag,hag,x',hx,rfl⟩:=h
  exact ze3 R hop (zm hd).1 (zm hd).2 hx hag he hK
 ·rename_i t x v hop
  split at h
  rotate_left
  ·cases h
  rename_i hd
  simp only[obi,omi] at h
  obtain⟨k,hk,x',hx,v',hv,rfl⟩:=h
  exact zeB R hop hd hx hv hk he hK
 ·rename_i x hop
  simp only[obi,omi] at h
  obtain⟨d,hd,x',hx,rfl⟩:=h
  exact zdk R hop (zm hd).1 (zm hd).2 hx he hK
 ·rename_i op t x y u hop
  simp only[obi] at h
  obtain⟨d,hd,x',hx,h⟩:=h
  split at h
  ·rename_i hnil
   simp only[Bool.and_eq_true] at hnil
   have hy:y= .const (.slice none 0 0):=by
    have:=hnil.1
    unfold zch at this
    split at this
    ·rfl
    ·cases this
   obtain⟨e,he'⟩:=Option.isSome_iff_exists.1 hnil.2
   rw[hy] at hop
   split at h
   ·cases h
    exact zbt (neg:=false) R hop rfl (jy he') (zm hd).1 (zm hd).2 hx he hK
   ·cases h
    exact zbt (neg:=true) R hop rfl (jy he') (zm hd).1 (zm hd).2 hx he hK
   ·cases h
  simp only[obi] at h
  obtain⟨y',hy,h⟩:=h
  split at h
  ·rename_i hfl
   unfold zd2 at hfl
   split at hfl
   rotate_left
   ·cases hfl
   rename_i fs hfs
   simp only[Bool.and_eq_true,Bool.not_eq_true'] at hfl
   have hfo:fieldsOf cx.P t=some fs:=by unfold fieldsOf;rw[hfs]
   split at h
   ·rw[hfo] at h
    cases h
    exact zcx (neg:=false) R hop rfl hfs hfl.1.1 (by simp) hfl.1.2 hfl.2 (zm hd).1 (zm hd).2 hx hy he hK
   ·rw[hfo] at h
    cases h
    exact zcx (neg:=true) R hop rfl hfs hfl.1.1 (by simp) hfl.1.2 hfl.2 (zm hd).1 (zm hd).2 hx hy he hK
   ·cases h
  split at h
  ·rename_i hb
   split at h
   ·cases h
    exact zdW (neg:=false) R hop rfl (XK hb) (zm hd).1 (zm hd).2 hx hy he hK
   ·cases h
    exact zdW (neg:=true) R hop rfl (XK hb) (zm hd).1 (zm hd).2 hx hy he hK
   ·cases h
  ·cases h
   exact zgt R hop (zm hd).1 (zm hd).2 hx hy he hK
 ·rename_i t x hop
  simp only[obi,omi] at h
  obtain⟨d,hd,x',hx,rfl⟩:=h
  exact zfu R hop (zm hd).1 (zm hd).2 hx he hK
 ·rename_i src dst x hop
  simp only[obi,omi] at h
  obtain⟨d,hd,k0,hk0,k,hk,x',hx,rfl⟩:=h
  exact zfg R hop (Xm hk0) (Xm hk) (zm hd).1 (zm hd).2 hx he hK
 ·rename_i fn first caps hop
  simp only[obi] at h
  obtain⟨d,hd,f,hf,h⟩:=h
  split at h
  rotate_left
  ·cases h
  rename_i hfirst
  simp only[omi] at h
  obtain⟨cs,hcs,rfl⟩:=h
  have hop:o.op= .makeFunc (.func f) #[] caps:=by
   rw[hop]
   have:first=#[]:=Array.toList_inj.1 (by simpa using hfirst)
   subst this
   unfold zoi at hf
   split at hf<;>simp_all
  exact zeO R hop (zm hd).1 (zm hd).2 hcs he hK
 ·rename_i t l c hop
  simp only[obi] at h
  obtain⟨d,hd,e,he',i,hi,z,hz,zs,hzs,h⟩:=h
  split at h
  rotate_left
  ·cases h
  rename_i hc
  simp only[obi,omi] at h
  obtain⟨l',hl,c',hcc,rfl⟩:=h
  exact zeV R hop (jy he') hi hz rfl ⟨zs,_,hzs,rfl⟩ (by rw[YJ];exact hc.1) hc.2 rfl (zm hd).1 (zm hd).2 hl hcc he hK
 ·rename_i t x lo hi mx hop
  simp only[obi] at h
  obtain⟨d,hd,e,he',sz,hsz,x',hx,lo',hlo,hi',hhi,mx',hmx,h⟩:=h
  split at h
  rotate_left
  ·cases h
  rename_i hc
  cases h
  exact zet R hop (jy he') hsz (zm hd).1 (zm hd).2 hx (xt hlo) (xt hhi) (xt hmx) hc he hK
 ·rename_i t x fi hop
  simp only[obi] at h
  obtain⟨d,hd,fs,hfs,f,hf,k,hk,h⟩:=h
  split at h
  ·cases h
  rename_i h0
  simp only[omi] at h
  obtain⟨x',hx,rfl⟩:=h
  exact zeu R hop (Qp hfs) hf hk h0 (zm hd).1 (zm hd).2 hx he hK
 ·rename_i t x fi hop
  simp only[obi,omi] at h
  obtain⟨d,hd,fs,hfs,f,hf,ag,hag,x',hx,rfl⟩:=h
  exact zee R hop (Qp hfs) hf hag (zm hd).1 (zm hd).2 hx he hK
 ·rename_i t x i hop
  simp only[obi,omi] at h
  obtain⟨d,hd,e,he',sz,hsz,x',hx,i',hi,rfl⟩:=h
  exact zd7 R hop (jy he') hsz (zm hd).1 (zm hd).2 hx hi he hK
 ·rename_i x i hop
  simp only[obi,omi] at h
  obtain⟨d,hd,x',hx,rfl⟩:=h
  exact zfD R hop (zm hd).1 (zm hd).2 hx he hK
 ·rename_i t x i hop
  simp only[obi] at h
  obtain⟨d,hd,st,hst,h⟩:=h
  split at h
  rotate_left
  ·cases h
  rename_i hs
  subst hs
  simp only[obi,omi] at h
  obtain⟨x',hx,i',hi,rfl⟩:=h
  exact zeK R hop (by unfold zaL at hst;split at hst<;>simp_all) (zm hd).1 (zm hd).2 hx hi he hK
 ·rw[obi] at h
  obtain⟨_,_,h⟩:=h
  cases h
  cases he
 ·rw[obi] at h
  obtain⟨_,_,h⟩:=h
  cases h
  cases he
 ·rename_i c hop
  exact zdn R hop h he hK
 ·cases h
end Go.AW
