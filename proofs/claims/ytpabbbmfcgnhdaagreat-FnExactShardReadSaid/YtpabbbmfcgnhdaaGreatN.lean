/- The model's operations turned into the compact ones: each does what the compact one says. Lemmas. Conditions: none. -/
import Derived.Test.YtpabbbmfcgnhdaaGreatLb
set_option linter.unusedVariables false
namespace Go.AW
def yO(n:Nat)(o:Oper):Option Nat:=o.dst.bind fun d=>if d < n then some d else none
def zdo:Option Operand→Option (Option Opd)
 |none=>some none
 |some x=>(zV x).map some
def kG(P:Program)(t:TypeId):Option TypeId:=match P.underlying t with
 |some (.slice e)=>some e
 |_=>none
def fieldsOf(P:Program)(t:TypeId):Option (Array Field):=match P.underlying t with
 |some (.struct fs)=>some fs
 |_=>none
def zgx(P:Program)(t:TypeId):Option IntKind:=match P.underlying t with
 |some (.int k)=>some k
 |_=>none
def zhD(P:Program)(t:TypeId):Option Bool:=match P.underlying t with
 |some .string=>some true
 |some (.slice _)=>some false
 |_=>none
def ziU(P:Program)(t:TypeId):Bool:=match P.underlying t with
 |some .bool=>true
 |_=>false
def zfh(P:Program):Nat→TypeId→List D
 |0,_=>[]
 |n+1,t=>match P.underlying t with
  |some (.int k)=>[.int k 0]
  |some .bool=>[.bool false]
  |some .string=>[.str ByteArray.empty]
  |some (.slice e)=>[.sl ((szP P e).getD 0) []]
  |some (.struct fs)=>fs.toList.flatMap fun f=>zfh P n f.type
  |_=>[.ptr []]
def zjJ:Operand→Bool
 | .const (.slice none 0 0)=>true
 |_=>false
def zlu(P:Program)(t:TypeId):Bool:=match P.underlying t with
 |some (.struct fs)=>zhp P fs.toList 0&&!P.stoodInHeld t&&!P.eqGuardType P.depth t
 |_=>false
def zFO:Fn→Option FuncId
 | .func f=>some f
 |_=>none
def zkq{α:Type}:List α→Option α
 |[x]=>some x
 |_=>none
def zgG{α:Type}:List α→Option (α×α)
 |[x,y]=>some (x,y)
 |_=>none
def y6(P:Program)(n:Nat)(o:Oper)(c:Call):Option IOp:=
 match c.callee with
 | .builtin .len=>(zkq c.args.toList).bind fun x=>(yO n o).bind fun d=>c.argTypes[0]?.bind fun t=>(zhD P t).bind fun st=>(zV x).map (.len d st)
 | .builtin .append=>(zgG c.args.toList).bind fun xy=>(zgG c.argTypes.toList).bind fun tu=>if tu.1=tu.2 then(yO n o).bind fun d=>(kG P tu.1).bind fun e=>(P.info? e).bind fun i=>i.zero.bind fun z=>
   if z.cells.size=i.size then(zV xy.1).bind fun x=>(zV xy.2).map (.app d i.size i.bytes (zfh P 8 e) x) else none else(zgx P tu.2).bind fun _=>(yO n o).bind fun d=>(kG P tu.1).bind fun e=>(P.info? e).bind fun i=>i.zero.bind fun z=>(z.cells.toList.mapM zb7).bind fun zs=>
   if zs.length=i.size∧i.size≠0 then(zV xy.1).bind fun x=>(zV xy.2).map (.apm d i.size i.bytes (Yr zs<|zfh P 8 e) x) else none
 | .builtin .max=>(zgG c.args.toList).bind fun xy=>(yO n o).bind fun d=>(zV xy.1).bind fun x=>(zV xy.2).map (.mm d true x)
 | .builtin .min=>(zgG c.args.toList).bind fun xy=>(yO n o).bind fun d=>(zV xy.1).bind fun x=>(zV xy.2).map (.mm d false x)
 | .builtin .clear=>(zkq c.args.toList).bind fun x=>c.argTypes[0]?.bind fun t=>(kG P t).bind fun e=>(P.info? e).bind fun i=>i.zero.bind fun z=>(z.cells.toList.mapM zb7).bind fun zs=>
   if zs.length=i.size∧i.size≠0∧o.dst=none then(zV x).map (.clear i.size<|Yr zs<|zfh P 8 e) else none
 | .builtin .cap=>(zkq c.args.toList).bind fun x=>c.argTypes[0]?.bind fun t=>(yO n o).bind fun d=>(kG P t).bind fun _=>(zV x).map (.cap d)
 | .builtin .copy=>(zgG c.args.toList).bind fun xy=>c.argTypes[0]?.bind fun t=>(yO n o).bind fun d=>(kG P t).bind fun e=>(P.info? e).bind fun i=>(zV xy.1).bind fun x=>(zV xy.2).map (.copy d i.size x)
 | .value f=>(yO n o).bind fun d=>(zV f).bind fun f=>(c.args.toList.mapM zV).map (.callv d f)
 |_=>none
def zp1(o:Oper):Option Unit:=if o.dst=none then some () else none
def kw(P:Program)(n:Nat)(o:Oper):Option IOp:=
 match o.op with
 | .move x=>(yO n o).bind fun d=>(zV x).map (.mov d)
 | .assign x=>(yO n o).bind fun d=>(zV x).map (.mov d)
 | .pick c x y=>(yO n o).bind fun d=>(zV c).bind fun c=>(zV x).bind fun x=>(zV y).map (.pick d c x)
 | .alloc e=>(yO n o).bind fun d=>(zcq P e).map (.var d)
 | .box _ x=>(yO n o).bind fun d=>(zV x).map (.box d)
 | .build t ps=>(yO n o).bind fun d=>(fieldsOf P t).bind fun fs=>if fs.toList.all (fun f=>(szP P f.type).isSome) then(zcq P t).bind fun zs=>(KG (Xq P fs) ps.toList).map (.build d zs) else none
 | .buildSlice t len ps=>(yO n o).bind fun d=>(kG P t).bind fun e=>(szP P e).bind fun sz=>(zcq P e).bind fun zs=>
   if 0 < sz∧len * sz≤1024∧zs.length=sz then(KG (fun i=>some (i * sz,sz)) ps.toList).map (.bslice d sz (List.replicate len zs).flatten) else none
 | .load t x=>(yO n o).bind fun d=>(zg8 P t).bind fun ag=>(zV x).map (.load d ag)
 | .store t x v=>if o.dst=none then(szP P t).bind fun k=>(zV x).bind fun x=>(zV v).map (.store k (zfh P 8 t) x) else none
 | .nilCheck x=>(yO n o).bind fun d=>(zV x).map (.nilchk d)
 | .binOp op t x y _=>(yO n o).bind fun d=>(zV x).bind fun x'=>if zjJ y&&(kG P t).isSome then(match op with| .eql=>some (.isnil d false x')| .neq=>some (.isnil d true x')|_=>none) else(zV y).bind fun y=>let x:=x'
   if zlu P t then(match op with| .eql=>(fieldsOf P t).map fun fs=> .seql d false fs.size x y| .neq=>(fieldsOf P t).map fun fs=> .seql d true fs.size x y|_=>none) else
   if ziU P t then(match op with| .eql=>some (.beq d false x y)| .neq=>some (.beq d true x y)|_=>none) else some (.bin d op x y)
 | .unOp .not _ x=>(yO n o).bind fun d=>(zV x).map (.inv d)
 | .convert src dst x=>(yO n o).bind fun d=>(zgx P src).bind fun _=>(zgx P dst).bind fun k=>(zV x).map (.conv d k)
 | .makeFunc fn first caps=>(yO n o).bind fun d=>(zFO fn).bind fun f=>if first.toList=[] then(caps.toList.mapM zV).map (.mkfn d f) else none
 | .makeSlice t l c=>(yO n o).bind fun d=>(kG P t).bind fun e=>(P.info? e).bind fun i=>i.zero.bind fun z=>(z.cells.toList.mapM zb7).bind fun zs=>
   if zs.length=i.size∧i.size≠0 then(zV l).bind fun l=>(zV c).map (.mksl d i.size i.bytes (Yr zs<|zfh P 8 e) l) else none
 | .slice t x lo hi mx=>(yO n o).bind fun d=>(kG P t).bind fun e=>(szP P e).bind fun sz=>(zV x).bind fun x=>(zdo lo).bind fun lo=>(zdo hi).bind fun hi=>(zdo mx).bind fun mx=>
   if mx.isSome→hi.isSome then some (.slice d sz x lo hi mx) else none
 | .fieldAddr t x fi=>(yO n o).bind fun d=>(fieldsOf P t).bind fun fs=>fs[fi]?.bind fun f=>(szP P f.type).bind fun k=>if k=0 then none else(zV x).map (.faddr d f.offset)
 | .field t x fi=>(yO n o).bind fun d=>(fieldsOf P t).bind fun fs=>fs[fi]?.bind fun f=>(zg8 P f.type).bind fun ag=>(zV x).map (.field d f.offset ag)
 | .indexAddr t x i=>(yO n o).bind fun d=>(kG P t).bind fun e=>(szP P e).bind fun sz=>(zV x).bind fun x=>(zV i).map (.iaddr d sz x)
 | .extract x i=>(yO n o).bind fun d=>(zV x).map fun x=> .ext d x i
 | .index t x i=>(yO n o).bind fun d=>(zhD P t).bind fun st=>if st then(zV x).bind fun x=>(zV i).map (.sidx d x) else none
 | .makeInterface _ _=>(yO n o).bind fun d=>some (.dead<|some d)
 | .panic _=>(zp1 o).bind fun _=>some (.dead none)
 | .call c=>y6 P n o c
 |_=>none
theorem zp{n d:Nat}{o:Oper}(h:yO n o=some d):o.dst=some d∧d < n:=by
 unfold yO at h;cases ho:o.dst with
 |none=>rw[ho] at h;cases h
 |some k=>
  rw[ho] at h;simp only[Option.bind_some] at h;split at h
  ·rename_i hk;cases h;exact⟨rfl,hk⟩
  ·cases h
theorem jV{P:Program}{t e:TypeId}(h:kG P t=some e):P.underlying t=some (.slice e):=by
 unfold kG at h;split at h<;>simp_all
theorem kj{P:Program}{t:TypeId}{fs:Array Field}(h:fieldsOf P t=some fs):P.underlying t=some (.struct fs):=by
 unfold fieldsOf at h;split at h<;>simp_all
theorem zdU{P:Program}{t:TypeId}{k:IntKind}(h:zgx P t=some k):P.underlying t=some (.int k):=by
 unfold zgx at h;split at h<;>simp_all
theorem zeI{P:Program}{t:TypeId}(h:ziU P t=true):P.underlying t=some .bool:=by
 unfold ziU at h;split at h<;>simp_all
theorem zce{x:Option Operand}{y:Option Opd}(h:zdo x=some y):zhj x y:=by
 cases x with
 |none=>simp[zdo] at h;subst h;trivial
 |some x=>simp only[zdo,omi] at h;obtain⟨z,hz,rfl⟩:=h;exact hz
theorem zb1{α:Type}{xs:Array α}{x:α}(h:zkq xs.toList=some x):xs=#[x]:=by
 unfold zkq at h;split at h
 ·rename_i y e;cases h;exact Array.toList_inj.1 (by simpa using e)
 ·cases h
theorem JG{α:Type}{xs:Array α}{p:α×α}(h:zgG xs.toList=some p):xs=#[p.1,p.2]:=by
 unfold zgG at h;split at h
 ·rename_i x y e;cases h;exact Array.toList_inj.1 (by simpa using e)
 ·cases h
variable {cx:Cx} {m:M} {s:St} {a:Act} {w:World} {o:Oper} {K:Act→World→Prop} {Q:Exit→Act→World→Prop}
theorem zkY(R:zQ cx m s a w){io:IOp}{c:Call}(hop:o.op= .call c)(h:y6 cx.P cx.n o c=some io){out:Out}(he:ev s io=some out)(hK:∀m' a' w',zQ cx m' (s.app out) a' w'→K a' w'):o.wp cx.P a w K Q:=by
 obtain⟨callee,args,ts⟩:=c;unfold y6 at h;simp only at h;split at h
 ·simp only[obi,omi] at h;obtain⟨x,hx0,d,hd,t,ht,st,hst,x',hx,rfl⟩:=h;have hst':∃e,cx.P.underlying t=some (if st then .string else .slice e):=by
   unfold zhD at hst;split at hst
   ·rename_i hu;cases hst;exact⟨0,by simpa using hu⟩
   ·rename_i e hu;cases hst;exact⟨e,by simpa using hu⟩
   ·cases hst
  obtain⟨e,hu⟩:=hst';have:=zb1 hx0;subst this;exact zn5 R hop ht hu (zp hd).1 (zp hd).2 hx he hK
 ·simp only[obi] at h;obtain⟨xy,hxy,tu,htu,h⟩:=h;split at h;rotate_left
  ·simp only[obi] at h;obtain⟨kn,hkn,d,hd,e,he',i,hi,z,hz,zs,hzs,h⟩:=h;split at h;rotate_left
   ·cases h
   rename_i hc;simp only[obi,omi] at h;obtain⟨x',hx,y',hy,rfl⟩:=h;have h1:=JG hxy;have h2:=JG htu;subst h1;subst h2;exact zpJ R hop (jV he') (zdU hkn) hi hz O hc.2 ⟨zs,_,hzs,rfl⟩ (by rw[Ks];exact hc.1) O (zp hd).1 (zp hd).2 hx hy he hK
  rename_i heq;simp only[obi] at h;obtain⟨d,hd,e,he',i,hi,z,hz,h⟩:=h;split at h;rotate_left
  ·cases h
  rename_i hzs;simp only[obi,omi] at h;obtain⟨x',hx,y',hy,rfl⟩:=h;have h1:=JG hxy;have h2:=JG htu;subst h1;subst h2;rw[←heq] at hop;exact zpc R hop (jV he') hi hz O hzs O (zp hd).1 (zp hd).2 hx hy he hK
 ·simp only[obi,omi] at h;obtain⟨xy,hxy,d,hd,x',hx,y',hy,rfl⟩:=h;have h1:=JG hxy;subst h1;exact znq (mx:=true) R hop (zp hd).1 (zp hd).2 hx hy he hK
 ·simp only[obi,omi] at h;obtain⟨xy,hxy,d,hd,x',hx,y',hy,rfl⟩:=h;have h1:=JG hxy;subst h1;exact znq (mx:=false) R hop (zp hd).1 (zp hd).2 hx hy he hK
 ·simp only[obi] at h;obtain⟨x,hx0,t,ht,e,he',i,hi,z,hz,zs,hzs,h⟩:=h;split at h;rotate_left
  ·cases h
  rename_i hc;simp only[omi] at h;obtain⟨x',hx,rfl⟩:=h;have:=zb1 hx0;subst this;exact zl0 R hop ht (jV he') hi hz O ⟨zs,_,hzs,rfl⟩ (by rw[Ks];exact hc.1) hc.2.1 hc.2.2 hx he hK
 ·simp only[obi,omi] at h;obtain⟨x,hx0,t,ht,d,hd,e,he',x',hx,rfl⟩:=h;have:=zb1 hx0;subst this;exact zor R hop ht (jV he') (zp hd).1 (zp hd).2 hx he hK
 ·simp only[obi,omi] at h;obtain⟨xy,hxy,t,ht,d,hd,e,he',i,hi,x',hx,y',hy,rfl⟩:=h;have h1:=JG hxy;subst h1;exact zmW R hop ht (jV he') hi O (zp hd).1 (zp hd).2 hx hy he hK
 ·simp only[obi,omi] at h;obtain⟨d,hd,f',hf,xs',hxs,rfl⟩:=h;simp[ev] at he
 ·cases h
theorem zny(R:zQ cx m s a w){io:IOp}(h:kw cx.P cx.n o=some io){out:Out}(he:ev s io=some out)(hK:∀m' a' w',zQ cx m' (s.app out) a' w'→K a' w'):o.wp cx.P a w K Q:=by
 unfold kw at h;split at h
 ·rename_i x hop;simp only[obi,omi] at h;obtain⟨d,hd,x',hx,rfl⟩:=h;exact zlH R (.inl hop) (zp hd).1 (zp hd).2 hx he hK
 ·rename_i x hop;simp only[obi,omi] at h;obtain⟨d,hd,x',hx,rfl⟩:=h;exact zlH R (.inr hop) (zp hd).1 (zp hd).2 hx he hK
 ·rename_i c x y hop;simp only[obi,omi] at h;obtain⟨d,hd,c',hc,x',hx,y',hy,rfl⟩:=h;simp only[ev] at he;split at he
  ·rename_i t ht;simp only[Option.some.injEq] at he;subst he;exact znX R hop (zp hd).1 (zp hd).2 hc hx hy ht hK
  ·cases he
 ·rename_i e hop;simp only[obi,omi] at h;obtain⟨d,hd,zs,hz,rfl⟩:=h;simp only[ev] at he;split at he
  ·rename_i hs;simp only[Option.some.injEq] at he;subst he;exact zoJ R hop (zp hd).1 (zp hd).2 hz hs hK
  ·cases he
 ·rename_i e x hop;simp only[obi,omi] at h;obtain⟨d,hd,x',hx,rfl⟩:=h;simp only[ev] at he;split at he
  ·rename_i hs;simp only[omi] at he;obtain⟨cs,hcs,rfl⟩:=he;exact zoK R hop (zp hd).1 (zp hd).2 hx hcs hs hK
  ·cases he
 ·rename_i t ps hop;simp only[obi] at h;obtain⟨d,hd,fs,hfs,h⟩:=h;split at h;rotate_left
  ·cases h
  rename_i hall;simp only[obi,omi] at h;obtain⟨zs,hz,qs,hqs,rfl⟩:=h;exact zmv R hop (kj hfs) hz hall hqs (zp hd).1 (zp hd).2 he hK
 ·rename_i t len ps hop;simp only[obi] at h;obtain⟨d,hd,e,he',sz,hsz,zs,hz,h⟩:=h;split at h;rotate_left
  ·cases h
  rename_i hc;simp only[omi] at h;obtain⟨qs,hqs,rfl⟩:=h;exact zkD R hop (jV he') hsz hc.1 hc.2.1 hz hc.2.2 hqs (zp hd).1 (zp hd).2 he hK
 ·rename_i t x hop;simp only[obi,omi] at h;obtain⟨d,hd,ag,hag,x',hx,rfl⟩:=h;exact znB R hop (zp hd).1 (zp hd).2 hx hag he hK
 ·rename_i t x v hop;split at h;rotate_left
  ·cases h
  rename_i hd;simp only[obi,omi] at h;obtain⟨k,hk,x',hx,v',hv,rfl⟩:=h;exact zmI R hop hd hx hv hk he hK
 ·rename_i x hop;simp only[obi,omi] at h;obtain⟨d,hd,x',hx,rfl⟩:=h;exact zkz R hop (zp hd).1 (zp hd).2 hx he hK
 ·rename_i op t x y u hop;simp only[obi] at h;obtain⟨d,hd,x',hx,h⟩:=h;split at h
  ·rename_i hnil;simp only[Bool.and_eq_true] at hnil;have hy:y= .const (.slice none 0 0):=by
    have:=hnil.1;unfold zjJ at this;split at this
    ·rfl
    ·cases this
   obtain⟨e,he'⟩:=Option.isSome_iff_exists.1 hnil.2;rw[hy] at hop;split at h
   ·cases h;exact zil (neg:=false) R hop O (jV he') (zp hd).1 (zp hd).2 hx he hK
   ·cases h;exact zil (neg:=true) R hop O (jV he') (zp hd).1 (zp hd).2 hx he hK
   ·cases h
  simp only[obi] at h;obtain⟨y',hy,h⟩:=h;split at h
  ·rename_i hfl;unfold zlu at hfl;split at hfl;rotate_left
   ·cases hfl
   rename_i fs hfs;simp only[Bool.and_eq_true,Bool.not_eq_true'] at hfl;have hfo:fieldsOf cx.P t=some fs:=by unfold fieldsOf;rw[hfs]
   split at h
   ·rw[hfo] at h;cases h;exact zkk (neg:=false) R hop O hfs hfl.1.1 (by simp) hfl.1.2 hfl.2 (zp hd).1 (zp hd).2 hx hy he hK
   ·rw[hfo] at h;cases h;exact zkk (neg:=true) R hop O hfs hfl.1.1 (by simp) hfl.1.2 hfl.2 (zp hd).1 (zp hd).2 hx hy he hK
   ·cases h
  split at h
  ·rename_i hb;split at h
   ·cases h;exact zlw (neg:=false) R hop O (zeI hb) (zp hd).1 (zp hd).2 hx hy he hK
   ·cases h;exact zlw (neg:=true) R hop O (zeI hb) (zp hd).1 (zp hd).2 hx hy he hK
   ·cases h
  ·cases h;exact zop R hop (zp hd).1 (zp hd).2 hx hy he hK
 ·rename_i t x hop;simp only[obi,omi] at h;obtain⟨d,hd,x',hx,rfl⟩:=h;exact zoO R hop (zp hd).1 (zp hd).2 hx he hK
 ·rename_i src dst x hop;simp only[obi,omi] at h;obtain⟨d,hd,k0,hk0,k,hk,x',hx,rfl⟩:=h;exact znp R hop (zdU hk0) (zdU hk) (zp hd).1 (zp hd).2 hx he hK
 ·rename_i fn first caps hop
  simp only[obi] at h;obtain⟨d,hd,f,hf,h⟩:=h;split at h;rotate_left
  ·cases h
  rename_i hfirst;simp only[omi] at h;obtain⟨cs,hcs,rfl⟩:=h;have hop:o.op= .makeFunc (.func f) #[] caps:=by
   rw[hop];have:first=#[]:=Array.toList_inj.1 (by simpa using hfirst)
   subst this;unfold zFO at hf;split at hf<;>simp_all
  exact zns R hop (zp hd).1 (zp hd).2 hcs he hK
 ·rename_i t l c hop;simp only[obi] at h;obtain⟨d,hd,e,he',i,hi,z,hz,zs,hzs,h⟩:=h;split at h;rotate_left
  ·cases h
  rename_i hc;simp only[obi,omi] at h;obtain⟨l',hl,c',hcc,rfl⟩:=h;exact zm7 R hop (jV he') hi hz O ⟨zs,_,hzs,rfl⟩ (by rw[Ks];exact hc.1) hc.2 O (zp hd).1 (zp hd).2 hl hcc he hK
 ·rename_i t x lo hi mx hop;simp only[obi] at h;obtain⟨d,hd,e,he',sz,hsz,x',hx,lo',hlo,hi',hhi,mx',hmx,h⟩:=h;split at h;rotate_left
  ·cases h
  rename_i hc;cases h;exact zmA R hop (jV he') hsz (zp hd).1 (zp hd).2 hx (zce hlo) (zce hhi) (zce hmx) hc he hK
 ·rename_i t x fi hop;simp only[obi] at h;obtain⟨d,hd,fs,hfs,f,hf,k,hk,h⟩:=h;split at h
  ·cases h
  rename_i h0;simp only[omi] at h;obtain⟨x',hx,rfl⟩:=h;exact zlU R hop (kj hfs) hf hk h0 (zp hd).1 (zp hd).2 hx he hK
 ·rename_i t x fi hop;simp only[obi,omi] at h;obtain⟨d,hd,fs,hfs,f,hf,ag,hag,x',hx,rfl⟩:=h;exact zmG R hop (kj hfs) hf hag (zp hd).1 (zp hd).2 hx he hK
 ·rename_i t x i hop;simp only[obi,omi] at h;obtain⟨d,hd,e,he',sz,hsz,x',hx,i',hi,rfl⟩:=h;exact zmC R hop (jV he') hsz (zp hd).1 (zp hd).2 hx hi he hK
 ·rename_i x i hop;simp only[obi,omi] at h;obtain⟨d,hd,x',hx,rfl⟩:=h;exact zpN R hop (zp hd).1 (zp hd).2 hx he hK
 ·rename_i t x i hop;simp only[obi] at h;obtain⟨d,hd,st,hst,h⟩:=h;split at h;rotate_left
  ·cases h
  rename_i hs;subst hs;simp only[obi,omi] at h;obtain⟨x',hx,i',hi,rfl⟩:=h;exact znU R hop (by unfold zhD at hst;split at hst<;>simp_all) (zp hd).1 (zp hd).2 hx hi he hK
 ·rw[obi] at h;obtain⟨_,_,h⟩:=h;cases h;cases he
 ·rw[obi] at h;obtain⟨_,_,h⟩:=h;cases h;cases he
 ·rename_i c hop;exact zkY R hop h he hK
 ·cases h
end Go.AW
