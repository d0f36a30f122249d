/- The model's operations turned into the compact ones: each does what the compact one says. Lemmas. Conditions: none. -/
import Derived.Test.YtpabbbmfcgnhdaaGreatNa
set_option linter.unusedVariables false
namespace Go.AW
def yw(n:Nat)(o:Oper):Option Nat:=o.dst.bind fun d=>if d < n then some d else none
def zaO:Option Operand→Option (Option Opd)
 |none=>some none
 |some x=>(zJ x).map some
def Yf(P:Program)(t:TypeId):Option TypeId:=match P.underlying t with
 |some (.slice e)=>some e
 |_=>none
def fieldsOf(P:Program)(t:TypeId):Option (Array Field):=match P.underlying t with
 |some (.struct fs)=>some fs
 |_=>none
def zhD(P:Program)(t:TypeId):Option IntKind:=match P.underlying t with
 |some (.int k)=>some k
 |_=>none
def zdh(P:Program)(t:TypeId):Bool:=match P.underlying t with
 |some (.int .u8)=>true
 |_=>false
def zhi(P:Program)(src dst:TypeId):Option (IntKind ⊕ Bool):=match P.underlying src,P.underlying dst with
 |some (.int _),some (.int k)=>some (.inl k)
 |some .string,some (.slice e)=>if zdh P e then some (.inr true) else none
 |some (.slice e),some .string=>if zdh P e then some (.inr false) else none
 |_,_=>none
def zdY(P:Program)(t:TypeId):Option Bool:=match P.underlying t with
 |some .string=>some true
 |some (.slice _)=>some false
 |_=>none
def zf6(P:Program)(t:TypeId):Bool:=match P.underlying t with
 |some .bool=>true
 |_=>false
def zcl(P:Program):Nat→TypeId→List D
 |0,_=>[]
 |n+1,t=>match P.underlying t with
  |some (.int k)=>[.int k 0]
  |some .bool=>[.bool false]
  |some .string=>[.str ByteArray.empty]
  |some (.slice e)=>[.sl ((szP P e).getD 0) []]
  |some (.struct fs)=>fs.toList.flatMap fun f=>zcl P n f.type
  |_=>[.ptr []]
def zgs:Operand→Bool
 | .const (.slice none 0 0)=>true
 |_=>false
def zh3(P:Program)(t:TypeId):Bool:=match P.underlying t with
 |some (.struct fs)=>zbs P fs.toList 0&&!P.stoodInHeld t&&!P.eqGuardType P.depth t
 |_=>false
def zFm:Fn→Option FuncId
 | .func f=>some f
 |_=>none
def zgK{α:Type}:List α→Option α
 |[x]=>some x
 |_=>none
def zeb{α:Type}:List α→Option (α×α)
 |[x,y]=>some (x,y)
 |_=>none
def Qa(P:Program)(n:Nat)(o:Oper)(c:Call):Option IOp:=
 match c.callee with
 | .builtin .len=>(zgK c.args.toList).bind fun x=>(yw n o).bind fun d=>c.argTypes[0]?.bind fun t=>(zdY P t).bind fun st=>(zJ x).map (.len d st)
 | .builtin .append=>(zeb c.args.toList).bind fun xy=>(zeb c.argTypes.toList).bind fun tu=>if tu.1=tu.2 then(yw n o).bind fun d=>(Yf P tu.1).bind fun e=>(P.info? e).bind fun i=>i.zero.bind fun z=>
   if z.cells.size=i.size then(zJ xy.1).bind fun x=>(zJ xy.2).map (.app d i.size i.bytes (zcl P 8 e) x) else none else(zhD P tu.2).bind fun _=>(yw n o).bind fun d=>(Yf P tu.1).bind fun e=>(P.info? e).bind fun i=>i.zero.bind fun z=>(z.cells.toList.mapM zaf).bind fun zs=>
   if zs.length=i.size∧i.size≠0 then(zJ xy.1).bind fun x=>(zJ xy.2).map (.apm d i.size i.bytes (JG zs<|zcl P 8 e) x) else none
 | .builtin .max=>(zeb c.args.toList).bind fun xy=>(yw n o).bind fun d=>(zJ xy.1).bind fun x=>(zJ xy.2).map (.mm d true x)
 | .builtin .min=>(zeb c.args.toList).bind fun xy=>(yw n o).bind fun d=>(zJ xy.1).bind fun x=>(zJ xy.2).map (.mm d false x)
 | .builtin .clear=>(zgK c.args.toList).bind fun x=>c.argTypes[0]?.bind fun t=>(Yf P t).bind fun e=>(P.info? e).bind fun i=>i.zero.bind fun z=>(z.cells.toList.mapM zaf).bind fun zs=>
   if zs.length=i.size∧i.size≠0∧o.dst=none then(zJ x).map (.clear i.size<|JG zs<|zcl P 8 e) else none
 | .builtin .cap=>(zgK c.args.toList).bind fun x=>c.argTypes[0]?.bind fun t=>(yw n o).bind fun d=>(Yf P t).bind fun _=>(zJ x).map (.cap d)
 | .builtin .copy=>(zeb c.args.toList).bind fun xy=>c.argTypes[0]?.bind fun t=>(yw n o).bind fun d=>(Yf P t).bind fun e=>(P.info? e).bind fun i=>(zJ xy.1).bind fun x=>(zJ xy.2).map (.copy d i.size x)
 | .value f=>(yw n o).bind fun d=>(zJ f).bind fun f=>(c.args.toList.mapM zJ).map (.callv d f)
 |_=>none
def zo8(o:Oper):Option Unit:=if o.dst=none then some () else none
def x9(P:Program)(n:Nat)(o:Oper):Option IOp:=
 match o.op with
 | .move x=>(yw n o).bind fun d=>(zJ x).map (.mov d)
 | .assign x=>(yw n o).bind fun d=>(zJ x).map (.mov d)
 | .pick c x y=>(yw n o).bind fun d=>(zJ c).bind fun c=>(zJ x).bind fun x=>(zJ y).map (.pick d c x)
 | .alloc e=>(yw n o).bind fun d=>(KP P e).map (.var d)
 | .box _ x=>(yw n o).bind fun d=>(zJ x).map (.box d)
 | .build t ps=>(yw n o).bind fun d=>(fieldsOf P t).bind fun fs=>if fs.toList.all (fun f=>(szP P f.type).isSome) then(KP P t).bind fun zs=>(xT (YC P fs) ps.toList).map (.build d zs) else none
 | .buildSlice t len ps=>(yw n o).bind fun d=>(Yf P t).bind fun e=>(szP P e).bind fun sz=>(KP P e).bind fun zs=>
   if 0 < sz∧len * sz≤1024∧zs.length=sz then(if len=0∧ps.size=0 then some (.pick d (.c<|.one<|.d<|.bool true) (.c<|.one .zs)<|.c<|.one .zs) else(xT (fun i=>some (i * sz,sz)) ps.toList).map (.bslice d sz (List.replicate len zs).flatten)) else none
 | .load t x=>(yw n o).bind fun d=>(zfQ P t).bind fun ag=>(zJ x).map (.load d ag)
 | .store t x v=>if o.dst=none then(szP P t).bind fun k=>(zJ x).bind fun x=>(zJ v).map (.store k (zcl P 8 t) x) else none
 | .nilCheck x=>(yw n o).bind fun d=>(zJ x).map (.nilchk d)
 | .binOp op t x y _=>(yw n o).bind fun d=>(zJ x).bind fun x'=>if zgs y&&(Yf P t).isSome then(match op with| .eql=>some (.isnil d false x')| .neq=>some (.isnil d true x')|_=>none) else(zJ y).bind fun y=>let x:=x'
   if zh3 P t then(match op with| .eql=>(fieldsOf P t).map fun fs=> .seql d false (YJ P fs.toList) x y| .neq=>(fieldsOf P t).map fun fs=> .seql d true (YJ P fs.toList) x y|_=>none) else
   if zf6 P t then(match op with| .eql=>some (.beq d false x y)| .neq=>some (.beq d true x y)|_=>none) else some (.bin d op x y)
 | .unOp u _ x=>(yw n o).bind fun d=>match u with
   | .not=>(zJ x).map (.inv d)
   | .xor=>(zJ x).map (.cpl d)
   |_=>none
 | .convert src dst x=>(yw n o).bind fun d=>match zhi P src dst with
   |some (.inl k)=>(zJ x).map (.conv d k)
   |some (.inr true)=>(zJ x).map (.s2b d)
   |some (.inr false)=>(zJ x).map (.b2s d)
   |none=>none
 | .makeFunc fn first caps=>(yw n o).bind fun d=>(zFm fn).bind fun f=>if first.toList=[] then(caps.toList.mapM zJ).map (.mkfn d f) else none
 | .makeSlice t l c=>(yw n o).bind fun d=>(Yf P t).bind fun e=>(P.info? e).bind fun i=>i.zero.bind fun z=>(z.cells.toList.mapM zaf).bind fun zs=>
   if zs.length=i.size∧i.size≠0 then(zJ l).bind fun l=>(zJ c).map (.mksl d i.size i.bytes (JG zs<|zcl P 8 e) l) else none
 | .slice t x lo hi mx=>(yw n o).bind fun d=>(Yf P t).bind fun e=>(szP P e).bind fun sz=>(zJ x).bind fun x=>(zaO lo).bind fun lo=>(zaO hi).bind fun hi=>(zaO mx).bind fun mx=>
   if mx.isSome→hi.isSome then some (.slice d sz x lo hi mx) else none
 | .fieldAddr t x fi=>(yw n o).bind fun d=>(fieldsOf P t).bind fun fs=>fs[fi]?.bind fun f=>(szP P f.type).bind fun k=>if k=0 then none else(zJ x).map (.faddr d f.offset)
 | .field t x fi=>(yw n o).bind fun d=>(fieldsOf P t).bind fun fs=>fs[fi]?.bind fun f=>(zfQ P f.type).bind fun ag=>(zJ x).map (.field d f.offset ag)
 | .indexAddr t x i=>(yw n o).bind fun d=>(Yf P t).bind fun e=>(szP P e).bind fun sz=>(zJ x).bind fun x=>(zJ i).map (.iaddr d sz x)
 | .extract x i=>(yw n o).bind fun d=>(zJ x).map fun x=> .ext d x i
 | .index t x i=>(yw n o).bind fun d=>(zdY P t).bind fun st=>if st then(zJ x).bind fun x=>(zJ i).map (.sidx d x) else none
 | .makeInterface _ _=>(yw n o).bind fun d=>some (.dead<|some d)
 | .panic _=>(zo8 o).bind fun _=>some (.dead none)
 | .call c=>Qa P n o c
 |_=>none
theorem zd{n d:Nat}{o:Oper}(h:yw n o=some d):o.dst=some d∧d < n:=by
 unfold yw at h;cases ho:o.dst with
 |none=>rw[ho] at h;cases h
 |some k=>
  rw[ho] at h;simp only[Option.bind_some] at h;split at h
  ·rename_i hk;cases h;exact⟨rfl,hk⟩
  ·cases h
theorem jf{P:Program}{t e:TypeId}(h:Yf P t=some e):P.underlying t=some (.slice e):=by
 unfold Yf at h;split at h<;>simp_all
theorem J3{P:Program}{t:TypeId}{fs:Array Field}(h:fieldsOf P t=some fs):P.underlying t=some (.struct fs):=by
 unfold fieldsOf at h;split at h<;>simp_all
theorem zhJ{P:Program}{t:TypeId}{k:IntKind}(h:zhD P t=some k):P.underlying t=some (.int k):=by
 unfold zhD at h;split at h<;>simp_all
theorem zbP{P:Program}{t:TypeId}(h:zdh P t=true):P.underlying t=some (.int .u8):=by
 unfold zdh at h;split at h<;>simp_all
theorem zjC{P:Program}{s d:TypeId}{k:IntKind}(h:zhi P s d=some (.inl k)):∃k0,P.underlying s=some (.int k0)∧P.underlying d=some (.int k):=by
 unfold zhi at h;split at h
 ·rename_i k0 k1 h1 h2;cases h;exact⟨_,h1,h2⟩
 ·split at h<;>cases h
 ·split at h<;>cases h
 ·cases h
theorem zju{P:Program}{s d:TypeId}(h:zhi P s d=some (.inr true)):∃e,P.underlying s=some .string∧P.underlying d=some (.slice e)∧P.underlying e=some (.int .u8):=by
 unfold zhi at h;split at h
 ·cases h
 ·rename_i e h1 h2;split at h
  ·rename_i h3;exact⟨e,h1,h2,zbP h3⟩
  ·cases h
 ·split at h<;>cases h
 ·cases h
theorem zkB{P:Program}{s d:TypeId}(h:zhi P s d=some (.inr false)):∃e,P.underlying s=some (.slice e)∧P.underlying d=some .string∧P.underlying e=some (.int .u8):=by
 unfold zhi at h;split at h
 ·cases h
 ·split at h<;>cases h
 ·rename_i e h1 h2;split at h
  ·rename_i h3;exact⟨e,h1,h2,zbP h3⟩
  ·cases h
 ·cases h
theorem zbN{P:Program}{t:TypeId}(h:zf6 P t=true):P.underlying t=some .bool:=by
 unfold zf6 at h;split at h<;>simp_all
theorem Kp{x:Option Operand}{y:Option Opd}(h:zaO x=some y):zdM x y:=by
 cases x with
 |none=>simp[zaO] at h;subst h;trivial
 |some x=>simp only[zaO,omi] at h;obtain⟨z,hz,rfl⟩:=h;exact hz
theorem KH{α:Type}{xs:Array α}{x:α}(h:zgK xs.toList=some x):xs=#[x]:=by
 unfold zgK at h;split at h
 ·rename_i y e;cases h;exact Array.toList_inj.1 (by simpa using e)
 ·cases h
theorem Qj{α:Type}{xs:Array α}{p:α×α}(h:zeb xs.toList=some p):xs=#[p.1,p.2]:=by
 unfold zeb at h;split at h
 ·rename_i x y e;cases h;exact Array.toList_inj.1 (by simpa using e)
 ·cases h
variable {cx:Cx} {m:M} {s:St} {a:Act} {w:World} {o:Oper} {K:Act→World→Prop} {Q:Exit→Act→World→Prop}
theorem zhM(R:zt cx m s a w){io:IOp}{c:Call}(hop:o.op= .call c)(h:Qa cx.P cx.n o c=some io){out:Out}(he:ev s io=some out)(hK:∀m' a' w',zt cx m' (s.app out) a' w'→K a' w'):o.wp cx.P a w K Q:=by
 obtain⟨callee,args,ts⟩:=c;unfold Qa at h;simp only at h;split at h
 ·simp only[obi,omi] at h;obtain⟨x,hx0,d,hd,t,ht,st,hst,x',hx,rfl⟩:=h;have hst':∃e,cx.P.underlying t=some (if st then .string else .slice e):=by
   unfold zdY at hst;split at hst
   ·rename_i hu;cases hst;exact⟨0,by simpa using hu⟩
   ·rename_i e hu;cases hst;exact⟨e,by simpa using hu⟩
   ·cases hst
  obtain⟨e,hu⟩:=hst';have:=KH hx0;subst this;exact zov R hop ht hu (zd hd).1 (zd hd).2 hx he hK
 ·simp only[obi] at h;obtain⟨xy,hxy,tu,htu,h⟩:=h;split at h;rotate_left
  ·simp only[obi] at h;obtain⟨kn,hkn,d,hd,e,he',i,hi,z,hz,zs,hzs,h⟩:=h;split at h;rotate_left
   ·cases h
   rename_i hc;simp only[obi,omi] at h;obtain⟨x',hx,y',hy,rfl⟩:=h;have h1:=Qj hxy;have h2:=Qj htu;subst h1;subst h2;exact zoB R hop (jf he') (zhJ hkn) hi hz O hc.2 ⟨zs,_,hzs,rfl⟩ (by rw[kG];exact hc.1) O (zd hd).1 (zd hd).2 hx hy he hK
  rename_i heq;simp only[obi] at h;obtain⟨d,hd,e,he',i,hi,z,hz,h⟩:=h;split at h;rotate_left
  ·cases h
  rename_i hzs;simp only[obi,omi] at h;obtain⟨x',hx,y',hy,rfl⟩:=h;have h1:=Qj hxy;have h2:=Qj htu;subst h1;subst h2;rw[←heq] at hop;exact znV R hop (jf he') hi hz O hzs O (zd hd).1 (zd hd).2 hx hy he hK
 ·simp only[obi,omi] at h;obtain⟨xy,hxy,d,hd,x',hx,y',hy,rfl⟩:=h;have h1:=Qj hxy;subst h1;exact zko (mx:=true) R hop (zd hd).1 (zd hd).2 hx hy he hK
 ·simp only[obi,omi] at h;obtain⟨xy,hxy,d,hd,x',hx,y',hy,rfl⟩:=h;have h1:=Qj hxy;subst h1;exact zko (mx:=false) R hop (zd hd).1 (zd hd).2 hx hy he hK
 ·simp only[obi] at h;obtain⟨x,hx0,t,ht,e,he',i,hi,z,hz,zs,hzs,h⟩:=h;split at h;rotate_left
  ·cases h
  rename_i hc;simp only[omi] at h;obtain⟨x',hx,rfl⟩:=h;have:=KH hx0;subst this;exact zjd R hop ht (jf he') hi hz O ⟨zs,_,hzs,rfl⟩ (by rw[kG];exact hc.1) hc.2.1 hc.2.2 hx he hK
 ·simp only[obi,omi] at h;obtain⟨x,hx0,t,ht,d,hd,e,he',x',hx,rfl⟩:=h;have:=KH hx0;subst this;exact zls R hop ht (jf he') (zd hd).1 (zd hd).2 hx he hK
 ·simp only[obi,omi] at h;obtain⟨xy,hxy,t,ht,d,hd,e,he',i,hi,x',hx,y',hy,rfl⟩:=h;have h1:=Qj hxy;subst h1;exact zki R hop ht (jf he') hi O (zd hd).1 (zd hd).2 hx hy he hK
 ·simp only[obi,omi] at h;obtain⟨d,hd,f',hf,xs',hxs,rfl⟩:=h;simp[ev] at he
 ·cases h
theorem zj7(R:zt cx m s a w){io:IOp}(h:x9 cx.P cx.n o=some io){out:Out}(he:ev s io=some out)(hK:∀m' a' w',zt cx m' (s.app out) a' w'→K a' w'):o.wp cx.P a w K Q:=by
 unfold x9 at h;split at h
 ·rename_i x hop;simp only[obi,omi] at h;obtain⟨d,hd,x',hx,rfl⟩:=h;exact zir R (.inl hop) (zd hd).1 (zd hd).2 hx he hK
 ·rename_i x hop;simp only[obi,omi] at h;obtain⟨d,hd,x',hx,rfl⟩:=h;exact zir R (.inr hop) (zd hd).1 (zd hd).2 hx he hK
 ·rename_i c x y hop;simp only[obi,omi] at h;obtain⟨d,hd,c',hc,x',hx,y',hy,rfl⟩:=h;simp only[ev] at he;split at he
  ·rename_i t ht;simp only[Option.some.injEq] at he;subst he;exact zke R hop (zd hd).1 (zd hd).2 hc hx hy ht hK
  ·cases he
 ·rename_i e hop;simp only[obi,omi] at h;obtain⟨d,hd,zs,hz,rfl⟩:=h;simp only[ev] at he;split at he
  ·rename_i hs;simp only[Option.some.injEq] at he;subst he;exact zmy R hop (zd hd).1 (zd hd).2 hz hs hK
  ·cases he
 ·rename_i e x hop;simp only[obi,omi] at h;obtain⟨d,hd,x',hx,rfl⟩:=h;simp only[ev] at he;split at he
  ·rename_i hs;simp only[omi] at he;obtain⟨cs,hcs,rfl⟩:=he;exact zmz R hop (zd hd).1 (zd hd).2 hx hcs hs hK
  ·cases he
 ·rename_i t ps hop;simp only[obi] at h;obtain⟨d,hd,fs,hfs,h⟩:=h;split at h;rotate_left
  ·cases h
  rename_i hall;simp only[obi,omi] at h;obtain⟨zs,hz,qs,hqs,rfl⟩:=h;exact ziN R hop (J3 hfs) hz hall hqs (zd hd).1 (zd hd).2 he hK
 ·rename_i t len ps hop;simp only[obi] at h;obtain⟨d,hd,e,he',sz,hsz,zs,hz,h⟩:=h;split at h;rotate_left
  ·cases h
  rename_i hc;split at h
  ·rename_i h0;cases h;exact zgq R hop (jf he') hsz h0.1 h0.2 (zd hd).1 (zd hd).2 he hK
  simp only[omi] at h;obtain⟨qs,hqs,rfl⟩:=h;exact zhG R hop (jf he') hsz hc.1 hc.2.1 hz hc.2.2 hqs (zd hd).1 (zd hd).2 he hK
 ·rename_i t x hop;simp only[obi,omi] at h;obtain⟨d,hd,ag,hag,x',hx,rfl⟩:=h;exact zkM R hop (zd hd).1 (zd hd).2 hx hag he hK
 ·rename_i t x v hop;split at h;rotate_left
  ·cases h
  rename_i hd;simp only[obi,omi] at h;obtain⟨k,hk,x',hx,v',hv,rfl⟩:=h;exact ziO R hop hd hx hv hk he hK
 ·rename_i x hop;simp only[obi,omi] at h;obtain⟨d,hd,x',hx,rfl⟩:=h;exact zhA R hop (zd hd).1 (zd hd).2 hx he hK
 ·rename_i op t x y u hop;simp only[obi] at h;obtain⟨d,hd,x',hx,h⟩:=h;split at h
  ·rename_i hnil;simp only[Bool.and_eq_true] at hnil;have hy:y= .const (.slice none 0 0):=by
    have:=hnil.1;unfold zgs at this;split at this
    ·rfl
    ·cases this
   obtain⟨e,he'⟩:=Option.isSome_iff_exists.1 hnil.2;rw[hy] at hop;split at h
   ·cases h;exact ze3 (neg:=false) R hop O (jf he') (zd hd).1 (zd hd).2 hx he hK
   ·cases h;exact ze3 (neg:=true) R hop O (jf he') (zd hd).1 (zd hd).2 hx he hK
   ·cases h
  simp only[obi] at h;obtain⟨y',hy,h⟩:=h;split at h
  ·rename_i hfl;unfold zh3 at hfl;split at hfl;rotate_left
   ·cases hfl
   rename_i fs hfs;simp only[Bool.and_eq_true,Bool.not_eq_true'] at hfl;have hfo:fieldsOf cx.P t=some fs:=by unfold fieldsOf;rw[hfs]
   split at h
   ·rw[hfo] at h;cases h;exact zgz (neg:=false) R hop O hfs hfl.1.1 O hfl.1.2 hfl.2 (zd hd).1 (zd hd).2 hx hy he hK
   ·rw[hfo] at h;cases h;exact zgz (neg:=true) R hop O hfs hfl.1.1 O hfl.1.2 hfl.2 (zd hd).1 (zd hd).2 hx hy he hK
   ·cases h
  split at h
  ·rename_i hb;split at h
   ·cases h;exact zh1 (neg:=false) R hop O (zbN hb) (zd hd).1 (zd hd).2 hx hy he hK
   ·cases h;exact zh1 (neg:=true) R hop O (zbN hb) (zd hd).1 (zd hd).2 hx hy he hK
   ·cases h
  ·cases h;exact zn6 R hop (zd hd).1 (zd hd).2 hx hy he hK
 ·rename_i u t x hop;simp only[obi] at h;obtain⟨d,hd,h⟩:=h;split at h
  ·simp only[omi] at h;obtain⟨x',hx,rfl⟩:=h;exact zkX R hop (zd hd).1 (zd hd).2 hx he hK
  ·simp only[omi] at h;obtain⟨x',hx,rfl⟩:=h;exact zn5 R hop (zd hd).1 (zd hd).2 hx he hK
  ·cases h
 ·rename_i src dst x hop;simp only[obi] at h;obtain⟨d,hd,h⟩:=h;split at h
  ·rename_i k hk;simp only[omi] at h;obtain⟨x',hx,rfl⟩:=h;obtain⟨k0,h1,h2⟩:=zjC hk;exact zjN R hop h1 h2 (zd hd).1 (zd hd).2 hx he hK
  ·rename_i hk;simp only[omi] at h;obtain⟨x',hx,rfl⟩:=h;obtain⟨e,h1,h2,h3⟩:=zju hk;exact znc R hop h1 h2 h3 (zd hd).1 (zd hd).2 hx he hK
  ·rename_i hk;simp only[omi] at h;obtain⟨x',hx,rfl⟩:=h;obtain⟨e,h1,h2,h3⟩:=zkB hk;exact zk7 R hop h1 h2 h3 (zd hd).1 (zd hd).2 hx he hK
  ·cases h
 ·rename_i fn first caps hop
  simp only[obi] at h;obtain⟨d,hd,f,hf,h⟩:=h;split at h;rotate_left
  ·cases h
  rename_i hfirst;simp only[omi] at h;obtain⟨cs,hcs,rfl⟩:=h;have hop:o.op= .makeFunc (.func f) #[] caps:=by
   rw[hop];have:first=#[]:=Array.toList_inj.1 (by simpa using hfirst)
   subst this;unfold zFm at hf;split at hf<;>simp_all
  exact zkn R hop (zd hd).1 (zd hd).2 hcs he hK
 ·rename_i t l c hop;simp only[obi] at h;obtain⟨d,hd,e,he',i,hi,z,hz,zs,hzs,h⟩:=h;split at h;rotate_left
  ·cases h
  rename_i hc;simp only[obi,omi] at h;obtain⟨l',hl,c',hcc,rfl⟩:=h;exact zky R hop (jf he') hi hz O ⟨zs,_,hzs,rfl⟩ (by rw[kG];exact hc.1) hc.2 O (zd hd).1 (zd hd).2 hl hcc he hK
 ·rename_i t x lo hi mx hop;simp only[obi] at h;obtain⟨d,hd,e,he',sz,hsz,x',hx,lo',hlo,hi',hhi,mx',hmx,h⟩:=h;split at h;rotate_left
  ·cases h
  rename_i hc;cases h;exact ziH R hop (jf he') hsz (zd hd).1 (zd hd).2 hx (Kp hlo) (Kp hhi) (Kp hmx) hc he hK
 ·rename_i t x fi hop;simp only[obi] at h;obtain⟨d,hd,fs,hfs,f,hf,k,hk,h⟩:=h;split at h
  ·cases h
  rename_i h0;simp only[omi] at h;obtain⟨x',hx,rfl⟩:=h;exact zi1 R hop (J3 hfs) hf hk h0 (zd hd).1 (zd hd).2 hx he hK
 ·rename_i t x fi hop;simp only[obi,omi] at h;obtain⟨d,hd,fs,hfs,f,hf,ag,hag,x',hx,rfl⟩:=h;exact zi2 R hop (J3 hfs) hf hag (zd hd).1 (zd hd).2 hx he hK
 ·rename_i t x i hop;simp only[obi,omi] at h;obtain⟨d,hd,e,he',sz,hsz,x',hx,i',hi,rfl⟩:=h;exact zja R hop (jf he') hsz (zd hd).1 (zd hd).2 hx hi he hK
 ·rename_i x i hop;simp only[obi,omi] at h;obtain⟨d,hd,x',hx,rfl⟩:=h;exact zlQ R hop (zd hd).1 (zd hd).2 hx he hK
 ·rename_i t x i hop;simp only[obi] at h;obtain⟨d,hd,st,hst,h⟩:=h;split at h;rotate_left
  ·cases h
  rename_i hs;subst hs;simp only[obi,omi] at h;obtain⟨x',hx,i',hi,rfl⟩:=h;exact zkc R hop (by unfold zdY at hst;split at hst<;>simp_all) (zd hd).1 (zd hd).2 hx hi he hK
 ·rw[obi] at h;obtain⟨_,_,h⟩:=h;cases h;cases he
 ·rw[obi] at h;obtain⟨_,_,h⟩:=h;cases h;cases he
 ·rename_i c hop;exact zhM R hop h he hK
 ·cases h
end Go.AW
