/- The model's operations turned into the compact ones: each does what the compact one says. Lemmas. Conditions: none. -/
import Derived.Test.YtpabbbmfcgnhdaaGreatLb
set_option linter.unusedVariables false
namespace Go.AW
def j0(n:Nat)(o:Oper):Option Nat:=o.dst.bind fun d=>if d < n then some d else none
def X6:Option Operand→Option (Option Opd)
 |none=>some none
 |some x=>(zR x).map some
def J1(P:Program)(t:TypeId):Option TypeId:=match P.underlying t with
 |some (.slice e)=>some e
 |_=>none
def fieldsOf(P:Program)(t:TypeId):Option (Array Field):=match P.underlying t with
 |some (.struct fs)=>some fs
 |_=>none
def zcD(P:Program)(t:TypeId):Option IntKind:=match P.underlying t with
 |some (.int k)=>some k
 |_=>none
def zca(P:Program)(t:TypeId):Option Bool:=match P.underlying t with
 |some .string=>some true
 |some (.slice _)=>some false
 |_=>none
def zei(P:Program)(t:TypeId):Bool:=match P.underlying t with
 |some .bool=>true
 |_=>false
def zaH(P:Program):Nat→TypeId→List D
 |0,_=>[]
 |n+1,t=>match P.underlying t with
  |some (.int k)=>[.int k 0]
  |some .bool=>[.bool false]
  |some .string=>[.str ByteArray.empty]
  |some (.slice e)=>[.sl ((szP P e).getD 0) []]
  |some (.struct fs)=>fs.toList.flatMap fun f=>zaH P n f.type
  |_=>[.ptr []]
def zeZ:Operand→Bool
 | .const (.slice none 0 0)=>true
 |_=>false
def zgJ(P:Program)(t:TypeId):Bool:=match P.underlying t with
 |some (.struct fs)=>KP P fs.toList 0&&!P.stoodInHeld t&&!P.eqGuardType P.depth t
 |_=>false
def zvQ:Fn→Option FuncId
 | .func f=>some f
 |_=>none
def zff{α:Type}:List α→Option α
 |[x]=>some x
 |_=>none
def zcR{α:Type}:List α→Option (α×α)
 |[x,y]=>some (x,y)
 |_=>none
def yq(P:Program)(n:Nat)(o:Oper)(c:Call):Option IOp:=
 match c.callee with
 | .builtin .len=>(zff c.args.toList).bind fun x=>(j0 n o).bind fun d=>c.argTypes[0]?.bind fun t=>(zca P t).bind fun st=>(zR x).map (.len d st)
 | .builtin .append=>(zcR c.args.toList).bind fun xy=>(zcR c.argTypes.toList).bind fun tu=>if tu.1=tu.2 then(j0 n o).bind fun d=>(J1 P tu.1).bind fun e=>(P.info? e).bind fun i=>i.zero.bind fun z=>
   if z.cells.size=i.size then(zR xy.1).bind fun x=>(zR xy.2).map (.app d i.size i.bytes (zaH P 8 e) x) else none else(zcD P tu.2).bind fun _=>(j0 n o).bind fun d=>(J1 P tu.1).bind fun e=>(P.info? e).bind fun i=>i.zero.bind fun z=>(z.cells.toList.mapM kX).bind fun zs=>
   if zs.length=i.size∧i.size≠0 then(zR xy.1).bind fun x=>(zR xy.2).map (.apm d i.size i.bytes (Qu zs<|zaH P 8 e) x) else none
 | .builtin .max=>(zcR c.args.toList).bind fun xy=>(j0 n o).bind fun d=>(zR xy.1).bind fun x=>(zR xy.2).map (.mm d true x)
 | .builtin .min=>(zcR c.args.toList).bind fun xy=>(j0 n o).bind fun d=>(zR xy.1).bind fun x=>(zR xy.2).map (.mm d false x)
 | .builtin .clear=>(zff c.args.toList).bind fun x=>c.argTypes[0]?.bind fun t=>(J1 P t).bind fun e=>(P.info? e).bind fun i=>i.zero.bind fun z=>(z.cells.toList.mapM kX).bind fun zs=>
   if zs.length=i.size∧i.size≠0∧o.dst=none then(zR x).map (.clear i.size<|Qu zs<|zaH P 8 e) else none
 | .builtin .cap=>(zff c.args.toList).bind fun x=>c.argTypes[0]?.bind fun t=>(j0 n o).bind fun d=>(J1 P t).bind fun _=>(zR x).map (.cap d)
 | .builtin .copy=>(zcR c.args.toList).bind fun xy=>c.argTypes[0]?.bind fun t=>(j0 n o).bind fun d=>(J1 P t).bind fun e=>(P.info? e).bind fun i=>(zR xy.1).bind fun x=>(zR xy.2).map (.copy d i.size x)
 | .value f=>(j0 n o).bind fun d=>(zR f).bind fun f=>(c.args.toList.mapM zR).map (.callv d f)
 |_=>none
def zjy(o:Oper):Option Unit:=if o.dst=none then some () else none
def Yh(P:Program)(n:Nat)(o:Oper):Option IOp:=
 match o.op with
 | .move x=>(j0 n o).bind fun d=>(zR x).map (.mov d)
 | .assign x=>(j0 n o).bind fun d=>(zR x).map (.mov d)
 | .pick c x y=>(j0 n o).bind fun d=>(zR c).bind fun c=>(zR x).bind fun x=>(zR y).map (.pick d c x)
 | .alloc e=>(j0 n o).bind fun d=>(Xk P e).map (.var d)
 | .box _ x=>(j0 n o).bind fun d=>(zR x).map (.box d)
 | .build t ps=>(j0 n o).bind fun d=>(fieldsOf P t).bind fun fs=>if fs.toList.all (fun f=>(szP P f.type).isSome) then(Xk P t).bind fun zs=>(YV (J9 P fs) ps.toList).map (.build d zs) else none
 | .buildSlice t len ps=>(j0 n o).bind fun d=>(J1 P t).bind fun e=>(szP P e).bind fun sz=>(Xk P e).bind fun zs=>
   if 0 < sz∧len * sz≤1024∧zs.length=sz then(if len=0∧ps.size=0 then some (.pick d (.c<|.one<|.d<|.bool true) (.c<|.one .zs)<|.c<|.one .zs) else(YV (fun i=>some (i * sz,sz)) ps.toList).map (.bslice d sz (List.replicate len zs).flatten)) else none
 | .load t x=>(j0 n o).bind fun d=>(zbP P t).bind fun ag=>(zR x).map (.load d ag)
 | .store t x v=>if o.dst=none then(szP P t).bind fun k=>(zR x).bind fun x=>(zR v).map (.store k (zaH P 8 t) x) else none
 | .nilCheck x=>(j0 n o).bind fun d=>(zR x).map (.nilchk d)
 | .binOp op t x y _=>(j0 n o).bind fun d=>(zR x).bind fun x'=>if zeZ y&&(J1 P t).isSome then(match op with| .eql=>some (.isnil d false x')| .neq=>some (.isnil d true x')|_=>none) else(zR y).bind fun y=>let x:=x'
   if zgJ P t then(match op with| .eql=>(fieldsOf P t).map fun fs=> .seql d false (Yx P fs.toList) x y| .neq=>(fieldsOf P t).map fun fs=> .seql d true (Yx P fs.toList) x y|_=>none) else
   if zei P t then(match op with| .eql=>some (.beq d false x y)| .neq=>some (.beq d true x y)|_=>none) else some (.bin d op x y)
 | .unOp .not _ x=>(j0 n o).bind fun d=>(zR x).map (.inv d)
 | .convert src dst x=>(j0 n o).bind fun d=>(zcD P src).bind fun _=>(zcD P dst).bind fun k=>(zR x).map (.conv d k)
 | .makeFunc fn first caps=>(j0 n o).bind fun d=>(zvQ fn).bind fun f=>if first.toList=[] then(caps.toList.mapM zR).map (.mkfn d f) else none
 | .makeSlice t l c=>(j0 n o).bind fun d=>(J1 P t).bind fun e=>(P.info? e).bind fun i=>i.zero.bind fun z=>(z.cells.toList.mapM kX).bind fun zs=>
   if zs.length=i.size∧i.size≠0 then(zR l).bind fun l=>(zR c).map (.mksl d i.size i.bytes (Qu zs<|zaH P 8 e) l) else none
 | .slice t x lo hi mx=>(j0 n o).bind fun d=>(J1 P t).bind fun e=>(szP P e).bind fun sz=>(zR x).bind fun x=>(X6 lo).bind fun lo=>(X6 hi).bind fun hi=>(X6 mx).bind fun mx=>
   if mx.isSome→hi.isSome then some (.slice d sz x lo hi mx) else none
 | .fieldAddr t x fi=>(j0 n o).bind fun d=>(fieldsOf P t).bind fun fs=>fs[fi]?.bind fun f=>(szP P f.type).bind fun k=>if k=0 then none else(zR x).map (.faddr d f.offset)
 | .field t x fi=>(j0 n o).bind fun d=>(fieldsOf P t).bind fun fs=>fs[fi]?.bind fun f=>(zbP P f.type).bind fun ag=>(zR x).map (.field d f.offset ag)
 | .indexAddr t x i=>(j0 n o).bind fun d=>(J1 P t).bind fun e=>(szP P e).bind fun sz=>(zR x).bind fun x=>(zR i).map (.iaddr d sz x)
 | .extract x i=>(j0 n o).bind fun d=>(zR x).map fun x=> .ext d x i
 | .index t x i=>(j0 n o).bind fun d=>(zca P t).bind fun st=>if st then(zR x).bind fun x=>(zR i).map (.sidx d x) else none
 | .makeInterface _ _=>(j0 n o).bind fun d=>some (.dead<|some d)
 | .panic _=>(zjy o).bind fun _=>some (.dead none)
 | .call c=>yq P n o c
 |_=>none
theorem zm{n d:Nat}{o:Oper}(h:j0 n o=some d):o.dst=some d∧d < n:=by
 unfold j0 at h;cases ho:o.dst with
 |none=>rw[ho] at h;cases h
 |some k=>
  rw[ho] at h;simp only[Option.bind_some] at h;split at h
  ·rename_i hk;cases h;exact⟨rfl,hk⟩
  ·cases h
theorem je{P:Program}{t e:TypeId}(h:J1 P t=some e):P.underlying t=some (.slice e):=by
 unfold J1 at h;split at h<;>simp_all
theorem JC{P:Program}{t:TypeId}{fs:Array Field}(h:fieldsOf P t=some fs):P.underlying t=some (.struct fs):=by
 unfold fieldsOf at h;split at h<;>simp_all
theorem KW{P:Program}{t:TypeId}{k:IntKind}(h:zcD P t=some k):P.underlying t=some (.int k):=by
 unfold zcD at h;split at h<;>simp_all
theorem K9{P:Program}{t:TypeId}(h:zei P t=true):P.underlying t=some .bool:=by
 unfold zei at h;split at h<;>simp_all
theorem kW{x:Option Operand}{y:Option Opd}(h:X6 x=some y):zcu x y:=by
 cases x with
 |none=>simp[X6] at h;subst h;trivial
 |some x=>simp only[X6,omi] at h;obtain⟨z,hz,rfl⟩:=h;exact hz
theorem kT{α:Type}{xs:Array α}{x:α}(h:zff xs.toList=some x):xs=#[x]:=by
 unfold zff at h;split at h
 ·rename_i y e;cases h;exact Array.toList_inj.1 (by simpa using e)
 ·cases h
theorem ZP{α:Type}{xs:Array α}{p:α×α}(h:zcR xs.toList=some p):xs=#[p.1,p.2]:=by
 unfold zcR at h;split at h
 ·rename_i x y e;cases h;exact Array.toList_inj.1 (by simpa using e)
 ·cases h
variable {cx:Cx} {m:M} {s:St} {a:Act} {w:World} {o:Oper} {K:Act→World→Prop} {Q:Exit→Act→World→Prop}
theorem zfI(R:zH cx m s a w){io:IOp}{c:Call}(hop:o.op= .call c)(h:yq cx.P cx.n o c=some io){out:Out}(he:ev s io=some out)(hK:∀m' a' w',zH cx m' (s.app out) a' w'→K a' w'):o.wp cx.P a w K Q:=by
 obtain⟨callee,args,ts⟩:=c;unfold yq at h;simp only at h;split at h
 ·simp only[obi,omi] at h;obtain⟨x,hx0,d,hd,t,ht,st,hst,x',hx,rfl⟩:=h;have hst':∃e,cx.P.underlying t=some (if st then .string else .slice e):=by
   unfold zca at hst;split at hst
   ·rename_i hu;cases hst;exact⟨0,by simpa using hu⟩
   ·rename_i e hu;cases hst;exact⟨e,by simpa using hu⟩
   ·cases hst
  obtain⟨e,hu⟩:=hst';have:=kT hx0;subst this;exact ziP R hop ht hu (zm hd).1 (zm hd).2 hx he hK
 ·simp only[obi] at h;obtain⟨xy,hxy,tu,htu,h⟩:=h;split at h;rotate_left
  ·simp only[obi] at h;obtain⟨kn,hkn,d,hd,e,he',i,hi,z,hz,zs,hzs,h⟩:=h;split at h;rotate_left
   ·cases h
   rename_i hc;simp only[obi,omi] at h;obtain⟨x',hx,y',hy,rfl⟩:=h;have h1:=ZP hxy;have h2:=ZP htu;subst h1;subst h2;exact ziM R hop (je he') (KW hkn) hi hz O hc.2 ⟨zs,_,hzs,rfl⟩ (by rw[YK];exact hc.1) O (zm hd).1 (zm hd).2 hx hy he hK
  rename_i heq;simp only[obi] at h;obtain⟨d,hd,e,he',i,hi,z,hz,h⟩:=h;split at h;rotate_left
  ·cases h
  rename_i hzs;simp only[obi,omi] at h;obtain⟨x',hx,y',hy,rfl⟩:=h;have h1:=ZP hxy;have h2:=ZP htu;subst h1;subst h2;rw[←heq] at hop;exact ziK R hop (je he') hi hz O hzs O (zm hd).1 (zm hd).2 hx hy he hK
 ·simp only[obi,omi] at h;obtain⟨xy,hxy,d,hd,x',hx,y',hy,rfl⟩:=h;have h1:=ZP hxy;subst h1;exact zie (mx:=true) R hop (zm hd).1 (zm hd).2 hx hy he hK
 ·simp only[obi,omi] at h;obtain⟨xy,hxy,d,hd,x',hx,y',hy,rfl⟩:=h;have h1:=ZP hxy;subst h1;exact zie (mx:=false) R hop (zm hd).1 (zm hd).2 hx hy he hK
 ·simp only[obi] at h;obtain⟨x,hx0,t,ht,e,he',i,hi,z,hz,zs,hzs,h⟩:=h;split at h;rotate_left
  ·cases h
  rename_i hc;simp only[omi] at h;obtain⟨x',hx,rfl⟩:=h;have:=kT hx0;subst this;exact zhh R hop ht (je he') hi hz O ⟨zs,_,hzs,rfl⟩ (by rw[YK];exact hc.1) hc.2.1 hc.2.2 hx he hK
 ·simp only[obi,omi] at h;obtain⟨x,hx0,t,ht,d,hd,e,he',x',hx,rfl⟩:=h;have:=kT hx0;subst this;exact ziz R hop ht (je he') (zm hd).1 (zm hd).2 hx he hK
 ·simp only[obi,omi] at h;obtain⟨xy,hxy,t,ht,d,hd,e,he',i,hi,x',hx,y',hy,rfl⟩:=h;have h1:=ZP hxy;subst h1;exact zh1 R hop ht (je he') hi O (zm hd).1 (zm hd).2 hx hy he hK
 ·simp only[obi,omi] at h;obtain⟨d,hd,f',hf,xs',hxs,rfl⟩:=h;simp[ev] at he
 ·cases h
theorem zhI(R:zH cx m s a w){io:IOp}(h:Yh cx.P cx.n o=some io){out:Out}(he:ev s io=some out)(hK:∀m' a' w',zH cx m' (s.app out) a' w'→K a' w'):o.wp cx.P a w K Q:=by
 unfold Yh at h;split at h
 ·rename_i x hop;simp only[obi,omi] at h;obtain⟨d,hd,x',hx,rfl⟩:=h;exact zgQ R (.inl hop) (zm hd).1 (zm hd).2 hx he hK
 ·rename_i x hop;simp only[obi,omi] at h;obtain⟨d,hd,x',hx,rfl⟩:=h;exact zgQ R (.inr hop) (zm hd).1 (zm hd).2 hx he hK
 ·rename_i c x y hop;simp only[obi,omi] at h;obtain⟨d,hd,c',hc,x',hx,y',hy,rfl⟩:=h;simp only[ev] at he;split at he
  ·rename_i t ht;simp only[Option.some.injEq] at he;subst he;exact zhM R hop (zm hd).1 (zm hd).2 hc hx hy ht hK
  ·cases he
 ·rename_i e hop;simp only[obi,omi] at h;obtain⟨d,hd,zs,hz,rfl⟩:=h;simp only[ev] at he;split at he
  ·rename_i hs;simp only[Option.some.injEq] at he;subst he;exact ziN R hop (zm hd).1 (zm hd).2 hz hs hK
  ·cases he
 ·rename_i e x hop;simp only[obi,omi] at h;obtain⟨d,hd,x',hx,rfl⟩:=h;simp only[ev] at he;split at he
  ·rename_i hs;simp only[omi] at he;obtain⟨cs,hcs,rfl⟩:=he;exact ziD R hop (zm hd).1 (zm hd).2 hx hcs hs hK
  ·cases he
 ·rename_i t ps hop;simp only[obi] at h;obtain⟨d,hd,fs,hfs,h⟩:=h;split at h;rotate_left
  ·cases h
  rename_i hall;simp only[obi,omi] at h;obtain⟨zs,hz,qs,hqs,rfl⟩:=h;exact zhv R hop (JC hfs) hz hall hqs (zm hd).1 (zm hd).2 he hK
 ·rename_i t len ps hop;simp only[obi] at h;obtain⟨d,hd,e,he',sz,hsz,zs,hz,h⟩:=h;split at h;rotate_left
  ·cases h
  rename_i hc;split at h
  ·rename_i h0;cases h;exact zeR R hop (je he') hsz h0.1 h0.2 (zm hd).1 (zm hd).2 he hK
  simp only[omi] at h;obtain⟨qs,hqs,rfl⟩:=h;exact zf8 R hop (je he') hsz hc.1 hc.2.1 hz hc.2.2 hqs (zm hd).1 (zm hd).2 he hK
 ·rename_i t x hop;simp only[obi,omi] at h;obtain⟨d,hd,ag,hag,x',hx,rfl⟩:=h;exact zhR R hop (zm hd).1 (zm hd).2 hx hag he hK
 ·rename_i t x v hop;split at h;rotate_left
  ·cases h
  rename_i hd;simp only[obi,omi] at h;obtain⟨k,hk,x',hx,v',hv,rfl⟩:=h;exact zhu R hop hd hx hv hk he hK
 ·rename_i x hop;simp only[obi,omi] at h;obtain⟨d,hd,x',hx,rfl⟩:=h;exact zfP R hop (zm hd).1 (zm hd).2 hx he hK
 ·rename_i op t x y u hop;simp only[obi] at h;obtain⟨d,hd,x',hx,h⟩:=h;split at h
  ·rename_i hnil;simp only[Bool.and_eq_true] at hnil;have hy:y= .const (.slice none 0 0):=by
    have:=hnil.1;unfold zeZ at this;split at this
    ·rfl
    ·cases this
   obtain⟨e,he'⟩:=Option.isSome_iff_exists.1 hnil.2;rw[hy] at hop;split at h
   ·cases h;exact zdR (neg:=false) R hop O (je he') (zm hd).1 (zm hd).2 hx he hK
   ·cases h;exact zdR (neg:=true) R hop O (je he') (zm hd).1 (zm hd).2 hx he hK
   ·cases h
  simp only[obi] at h;obtain⟨y',hy,h⟩:=h;split at h
  ·rename_i hfl;unfold zgJ at hfl;split at hfl;rotate_left
   ·cases hfl
   rename_i fs hfs;simp only[Bool.and_eq_true,Bool.not_eq_true'] at hfl;have hfo:fieldsOf cx.P t=some fs:=by unfold fieldsOf;rw[hfs]
   split at h
   ·rw[hfo] at h;cases h;exact zeH (neg:=false) R hop O hfs hfl.1.1 O hfl.1.2 hfl.2 (zm hd).1 (zm hd).2 hx hy he hK
   ·rw[hfo] at h;cases h;exact zeH (neg:=true) R hop O hfs hfl.1.1 O hfl.1.2 hfl.2 (zm hd).1 (zm hd).2 hx hy he hK
   ·cases h
  split at h
  ·rename_i hb;split at h
   ·cases h;exact zgl (neg:=false) R hop O (K9 hb) (zm hd).1 (zm hd).2 hx hy he hK
   ·cases h;exact zgl (neg:=true) R hop O (K9 hb) (zm hd).1 (zm hd).2 hx hy he hK
   ·cases h
  ·cases h;exact zje R hop (zm hd).1 (zm hd).2 hx hy he hK
 ·rename_i t x hop;simp only[obi,omi] at h;obtain⟨d,hd,x',hx,rfl⟩:=h;exact zjd R hop (zm hd).1 (zm hd).2 hx he hK
 ·rename_i src dst x hop;simp only[obi,omi] at h;obtain⟨d,hd,k0,hk0,k,hk,x',hx,rfl⟩:=h;exact zij R hop (KW hk0) (KW hk) (zm hd).1 (zm hd).2 hx he hK
 ·rename_i fn first caps hop
  simp only[obi] at h;obtain⟨d,hd,f,hf,h⟩:=h;split at h;rotate_left
  ·cases h
  rename_i hfirst;simp only[omi] at h;obtain⟨cs,hcs,rfl⟩:=h;have hop:o.op= .makeFunc (.func f) #[] caps:=by
   rw[hop];have:first=#[]:=Array.toList_inj.1 (by simpa using hfirst)
   subst this;unfold zvQ at hf;split at hf<;>simp_all
  exact zhQ R hop (zm hd).1 (zm hd).2 hcs he hK
 ·rename_i t l c hop;simp only[obi] at h;obtain⟨d,hd,e,he',i,hi,z,hz,zs,hzs,h⟩:=h;split at h;rotate_left
  ·cases h
  rename_i hc;simp only[obi,omi] at h;obtain⟨l',hl,c',hcc,rfl⟩:=h;exact zh7 R hop (je he') hi hz O ⟨zs,_,hzs,rfl⟩ (by rw[YK];exact hc.1) hc.2 O (zm hd).1 (zm hd).2 hl hcc he hK
 ·rename_i t x lo hi mx hop;simp only[obi] at h;obtain⟨d,hd,e,he',sz,hsz,x',hx,lo',hlo,hi',hhi,mx',hmx,h⟩:=h;split at h;rotate_left
  ·cases h
  rename_i hc;cases h;exact zg4 R hop (je he') hsz (zm hd).1 (zm hd).2 hx (kW hlo) (kW hhi) (kW hmx) hc he hK
 ·rename_i t x fi hop;simp only[obi] at h;obtain⟨d,hd,fs,hfs,f,hf,k,hk,h⟩:=h;split at h
  ·cases h
  rename_i h0;simp only[omi] at h;obtain⟨x',hx,rfl⟩:=h;exact zgU R hop (JC hfs) hf hk h0 (zm hd).1 (zm hd).2 hx he hK
 ·rename_i t x fi hop;simp only[obi,omi] at h;obtain⟨d,hd,fs,hfs,f,hf,ag,hag,x',hx,rfl⟩:=h;exact zhl R hop (JC hfs) hf hag (zm hd).1 (zm hd).2 hx he hK
 ·rename_i t x i hop;simp only[obi,omi] at h;obtain⟨d,hd,e,he',sz,hsz,x',hx,i',hi,rfl⟩:=h;exact zhf R hop (je he') hsz (zm hd).1 (zm hd).2 hx hi he hK
 ·rename_i x i hop;simp only[obi,omi] at h;obtain⟨d,hd,x',hx,rfl⟩:=h;exact ziI R hop (zm hd).1 (zm hd).2 hx he hK
 ·rename_i t x i hop;simp only[obi] at h;obtain⟨d,hd,st,hst,h⟩:=h;split at h;rotate_left
  ·cases h
  rename_i hs;subst hs;simp only[obi,omi] at h;obtain⟨x',hx,i',hi,rfl⟩:=h;exact ziu R hop (by unfold zca at hst;split at hst<;>simp_all) (zm hd).1 (zm hd).2 hx hi he hK
 ·rw[obi] at h;obtain⟨_,_,h⟩:=h;cases h;cases he
 ·rw[obi] at h;obtain⟨_,_,h⟩:=h;cases h;cases he
 ·rename_i c hop;exact zfI R hop h he hK
 ·cases h
end Go.AW
