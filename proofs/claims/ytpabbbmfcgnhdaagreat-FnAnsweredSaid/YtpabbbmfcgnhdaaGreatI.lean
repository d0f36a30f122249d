/- That each further operation does in the model what the compact one says, part three: slices. Lemmas. Conditions: none. -/
import Derived.Test.YtpabbbmfcgnhdaaGreatH
set_option linter.unusedVariables false
namespace Go.AW
variable {cx:Cx} {m:M} {s:St} {a:Act} {w:World} {o:Oper} {K:Act→World→Prop} {Q:Exit→Act→World→Prop}
theorem Ky{h:Hp}{sz:Nat}{xs:List (List D)}{u:Value}(H:qK m h (.one<|.d<|.sl sz xs) u):
  ∃ad cap,u= .slice ad xs.length cap∧(xs=[]∨∃b off cells T fz bs,ad=some ⟨b,off,none⟩∧h[b]? =some (.cells cells T fz)∧xs.length≤cap∧off+cap * sz≤cells.size∧RdLL false h sz xs (cells.toList.drop off) bs∧
   m.own b=none∧∀c∈bs,m.own c=none):=by
 obtain⟨_,bs,hr,hb⟩:=H;simp only[Rd] at hr;obtain⟨ad,cap,rfl,hr⟩:=hr;refine⟨ad,cap,rfl,?_⟩;rcases hr with hr|⟨b,off,cells,T,fz,bs',ha,hh,rfl,hl,hc,_,hr⟩
 ·exact .inl hr.1
 ·exact .inr ⟨b,off,cells,T,fz,bs',ha,hh,hl,hc,hr,hb b (by simp),fun c hc=>hb c (by simp[hc])⟩
theorem ye{h:Hp}{n off len:Nat}{u:Value}(H:qK m h (.one<|.sl n off len) u):
  ∃f,m.inf n=some f∧off+len≤f.cap∧∃ad,u= .slice ad len (f.cap - off)∧(off < f.cap→∃b,f.blk=some b∧ad=some ⟨b,off * f.sz,none⟩):=H.2
theorem zT.sz{n sz:Nat}{f:NI}{h:Hp}(hb:s.blkSz n=some sz)(H:zT cx m h n (s.hp n) (some f)):f.sz=sz:=by
 unfold St.blkSz at hb;cases hk:s.hp n with
 |none=>rw[hk] at hb;cases hb
 |some k=>
  rw[hk] at hb H;unfold zT at H;cases hbk:f.blk with
  |none=>
   simp only[hbk] at H;obtain⟨_,z,o,cp,rfl,h2,_⟩:=H;cases hb;exact h2
  |some b=>
   simp only[hbk] at H;obtain⟨_,_,cells,T,_,_,h6⟩:=H;cases k with
   |data z xs o cp=>cases hb;exact h6.1
   |vars z cs=>cases hb;exact h6.1
   |own ds=>cases hb;exact h6.1
theorem zgP{h:Hp}{v0 u:Value}{x:D}(H:qK m h (.one<|.d<|.both v0 x) u):qK m h (.one<|.d x) u:=by
 obtain⟨h1,bs,hr,hb⟩:=H;simp only[Rd] at hr;exact⟨h1,bs,hr.2,hb⟩
theorem zh8{h:Hp}{n sz:Nat}{xs:List (List D)}{u:Value}(H:qK m h (.one<|.sub n<|.sl sz xs) u):
  ∃g,m.inf n=some g∧∃ad cap,u= .slice ad xs.length cap∧(xs=[]∨∃b off cells T fz bs,ad=some ⟨b,off,none⟩∧h[b]? =some (.cells cells T fz)∧xs.length≤cap∧off+cap * sz≤cells.size∧RdLL false h sz xs (cells.toList.drop off) bs∧
   ((m.own b=none∨m.own b=some n)∧g.blk≠some b)∧∀c∈bs,(m.own c=none∨m.own c=some n)∧g.blk≠some c):=by
 obtain⟨_,g,hg,bs,hr,hb⟩:=H;simp only[Rd] at hr;obtain⟨ad,cap,rfl,hr⟩:=hr;refine⟨g,hg,ad,cap,rfl,?_⟩;rcases hr with hr|⟨b,off,cells,T,fz,bs',ha,hh,rfl,hl,hc,_,hr⟩
 ·exact .inl hr.1
 ·exact .inr ⟨b,off,cells,T,fz,bs',ha,hh,hl,hc,hr,hb b (by simp),fun c hc=>hb c (by simp[hc])⟩
theorem zgL{h:Hp}{n:Nat}{v0 u:Value}{x:D}(H:qK m h (.one<|.sub n<|.both v0 x) u):qK m h (.one<|.sub n x) u:=by
 obtain⟨h1,g,hg,bs,hr,hb⟩:=H;simp only[Rd] at hr;exact⟨h1,g,hg,bs,hr.2,hb⟩
theorem zja(R:zt cx m s a w){d n:Nat}{t e:TypeId}{x y:Operand}{x' y':Opd}(ho:o.op= .indexAddr t x y)(ht:cx.P.underlying t=some (.slice e))(hsz:szP cx.P e=some n)(hd:o.dst=some d)(hn:d < cx.n)(hx:zJ x=some x')(hy:zJ y=some y'){out:Out}
  (he:ev s (.iaddr d n x' y')=some out) (hK:∀m' a' w',zt cx m' (s.app out) a' w'→K a' w'):o.wp cx.P a w K Q:=by
 have h1:=R.opd hx;have h2:=R.opd hy;simp only[szP,omi] at hsz;obtain⟨i,hi,hin⟩:=hsz;simp only[ev,omi] at he;obtain⟨v,hv,rfl⟩:=he;unfold St.at at hv;split at hv
 ·rename_i z xs k ix hp hq;rw[hp] at h1;rw[hq] at h2;have h2:=ZB h2;split at hv<;>simp only[omi,reduceCtorEq] at hv;rename_i hc;obtain⟨rfl,h0⟩:=hc;obtain⟨el,hel,rfl⟩:=hv;obtain⟨ad,cap,hu,hr⟩:=Ky h1;obtain⟨hlt,_⟩:=List.getElem?_eq_some_iff.1 hel;rcases hr with rfl|⟨b,off,cells,T,fz,bs,rfl,hh,hl,hc,hr,hb,hbs⟩
  ·simp at hlt
  obtain⟨hesz,b',hr',hb'⟩:=RdLL.at hr hel;refine qC R hd hn (v:= .one (.ptr<|.bd el 0)) (u:= .pointer (some ⟨b,off+ix.toNat * z,none⟩)) ⟨rfl,b,off+ix.toNat * z,cells,T,fz,b',rfl,hh,?_,hb,fun c hc=>hbs c (hb'.subset hc)⟩ ?_ hK
  ·rw[List.drop_drop,←hesz] at hr';exact hesz▸hr'
  ·have hlt':ix < (xs.length:Int):=by omega
   simp only[execOp,ho,Instr.indexAt,h2,hu,asIntOf,Sem.run_bind,Sem.run_pure,Result.andThen_ok,zp ht,h0,hlt',and_self,if_true,qt hi,hin,Qp]
 ·rename_i v0 z xs k ix hp hq;rw[hp] at h1;have h1:=zgP h1;rw[hq] at h2;have h2:=ZB h2;split at hv<;>simp only[omi,reduceCtorEq] at hv;rename_i hc;obtain⟨rfl,h0⟩:=hc;obtain⟨el,hel,rfl⟩:=hv;obtain⟨ad,cap,hu,hr⟩:=Ky h1;obtain⟨hlt,_⟩:=List.getElem?_eq_some_iff.1 hel;rcases hr with rfl|⟨b,off,cells,T,fz,bs,rfl,hh,hl,hc,hr,hb,hbs⟩
  ·simp at hlt
  obtain⟨hesz,b',hr',hb'⟩:=RdLL.at hr hel;refine qC R hd hn (v:= .one (.ptr<|.bd el 0)) (u:= .pointer (some ⟨b,off+ix.toNat * z,none⟩)) ⟨rfl,b,off+ix.toNat * z,cells,T,fz,b',rfl,hh,?_,hb,fun c hc=>hbs c (hb'.subset hc)⟩ ?_ hK
  ·rw[List.drop_drop,←hesz] at hr';exact hesz▸hr'
  ·have hlt':ix < (xs.length:Int):=by omega
   simp only[execOp,ho,Instr.indexAt,h2,hu,asIntOf,Sem.run_bind,Sem.run_pure,Result.andThen_ok,zp ht,h0,hlt',and_self,if_true,qt hi,hin,Qp]
 ·rename_i k0 z xs k ix hp hq;rw[hp] at h1;rw[hq] at h2;have h2:=ZB h2;split at hv<;>simp only[omi,reduceCtorEq] at hv;rename_i hc;obtain⟨rfl,h0⟩:=hc;obtain⟨el,hel,rfl⟩:=hv;obtain⟨g,hg,ad,cap,hu,hr⟩:=zh8 h1;obtain⟨hlt,_⟩:=List.getElem?_eq_some_iff.1 hel;rcases hr with rfl|⟨b,off,cells,T,fz,bs,rfl,hh,hl,hc,hr,hb,hbs⟩
  ·simp at hlt
  obtain⟨hesz,b',hr',hb'⟩:=RdLL.at hr hel;refine qC R hd hn (v:= .one (.sub k0<|.ptr el)) (u:= .pointer (some ⟨b,off+ix.toNat * z,none⟩)) ⟨rfl,g,hg,b::b',?_,fun c hc=> ?_⟩ ?_ hK
  ·simp only[Rd];refine⟨b,off+ix.toNat * z,cells,T,fz,b',rfl,hh,rfl,(fun h=>by cases h),?_⟩;rw[List.drop_drop,←hesz] at hr';exact hesz▸hr'
  ·rcases List.mem_cons.1 hc with rfl|hc
   ·exact hb
   ·exact hbs c (hb'.subset hc)
  ·have hlt':ix < (xs.length:Int):=by omega
   simp only[execOp,ho,Instr.indexAt,h2,hu,asIntOf,Sem.run_bind,Sem.run_pure,Result.andThen_ok,zp ht,h0,hlt',and_self,if_true,qt hi,hin,Qp]
 ·rename_i k0 v0 z xs k ix hp hq;rw[hp] at h1;have h1:=zgL h1;rw[hq] at h2;have h2:=ZB h2;split at hv<;>simp only[omi,reduceCtorEq] at hv;rename_i hc;obtain⟨rfl,h0⟩:=hc;obtain⟨el,hel,rfl⟩:=hv;obtain⟨g,hg,ad,cap,hu,hr⟩:=zh8 h1;obtain⟨hlt,_⟩:=List.getElem?_eq_some_iff.1 hel;rcases hr with rfl|⟨b,off,cells,T,fz,bs,rfl,hh,hl,hc,hr,hb,hbs⟩
  ·simp at hlt
  obtain⟨hesz,b',hr',hb'⟩:=RdLL.at hr hel;refine qC R hd hn (v:= .one (.sub k0<|.ptr el)) (u:= .pointer (some ⟨b,off+ix.toNat * z,none⟩)) ⟨rfl,g,hg,b::b',?_,fun c hc=> ?_⟩ ?_ hK
  ·simp only[Rd];refine⟨b,off+ix.toNat * z,cells,T,fz,b',rfl,hh,rfl,(fun h=>by cases h),?_⟩;rw[List.drop_drop,←hesz] at hr';exact hesz▸hr'
  ·rcases List.mem_cons.1 hc with rfl|hc
   ·exact hb
   ·exact hbs c (hb'.subset hc)
  ·have hlt':ix < (xs.length:Int):=by omega
   simp only[execOp,ho,Instr.indexAt,h2,hu,asIntOf,Sem.run_bind,Sem.run_pure,Result.andThen_ok,zp ht,h0,hlt',and_self,if_true,qt hi,hin,Qp]
 ·rename_i k off len kk ix hp hq;rw[hp] at h1;rw[hq] at h2;have h2:=ZB h2;split at hv<;>simp only[Option.some.injEq,reduceCtorEq] at hv;rename_i hc;obtain⟨hbs,h0,hlt⟩:=hc;subst hv;obtain⟨f,hf,hcap,ad,hu,had⟩:=ye h1;obtain⟨b,hb,rfl⟩:=had (by omega);have hN:=R.hp k;rw[hf] at hN;have hfs:=zT.sz hbs hN;refine qC R hd hn (v:= .one (.ptr<|.nm k (off+ix.toNat) 0)) (u:= .pointer (some ⟨b,off * f.sz+ix.toNat * n,none⟩)) ⟨rfl,f,b,hf,hb,?_⟩ ?_ hK
  ·rw[hfs,Nat.add_mul];rfl
  ·simp only[execOp,ho,Instr.indexAt,h2,hu,asIntOf,Sem.run_bind,Sem.run_pure,Result.andThen_ok,zp ht,h0,hlt,and_self,if_true,qt hi,hin,Qp]
 ·cases hv
theorem zov(R:zt cx m s a w){d:Nat}{st:Bool}{t e:TypeId}{ts:Array TypeId}{x:Operand}{x':Opd}(ho:o.op= .call {callee:= .builtin .len,args:=#[x],argTypes:=ts})(hts:ts[0]? =some t)(ht:cx.P.underlying t=some (if st then .string else .slice e))(hd:o.dst=some d)(hn:d < cx.n)(hx:zJ x=some x'){out:Out}
  (he:ev s (.len d st x')=some out) (hK:∀m' a' w',zt cx m' (s.app out) a' w'→K a' w'):o.wp cx.P a w K Q:=by
 have h1:=R.opd hx;simp only[ev,omi] at he;obtain⟨n,hn',rfl⟩:=he;have fin:∀ad l c,a.eval x= .slice ad l c→n=l→st=false→o.wp cx.P a w K Q:=by
  intro ad l c hu hl hst;subst hl;subst hst;refine qC R hd hn (yS _ _) ?_ hK;simp only[Bool.false_eq_true,if_false] at ht;simp[execOp,ho,resolve,hu,invoke,builtin,Builtin.len_,hts,zp ht,goInt]
 unfold St.lenOf at hn';split at hn'
 ·rename_i z xs hp;split at hn'<;>simp only[Option.some.injEq,reduceCtorEq] at hn';rename_i hst;rw[hp] at h1;obtain⟨ad,cap,hu,_⟩:=Ky h1;exact fin _ _ _ hu hn'.symm (by simpa using hst)
 ·rename_i v0 z xs hp;split at hn'<;>simp only[Option.some.injEq,reduceCtorEq] at hn';rename_i hst;rw[hp] at h1;have h1:=zgP h1;obtain⟨ad,cap,hu,_⟩:=Ky h1;exact fin _ _ _ hu hn'.symm (by simpa using hst)
 ·rename_i k z xs hp;split at hn'<;>simp only[Option.some.injEq,reduceCtorEq] at hn';rename_i hst;rw[hp] at h1;obtain⟨_,f,hf,bs,hr,_⟩:=h1;simp only[Rd] at hr;obtain⟨ad,cap,hu,_⟩:=hr;exact fin _ _ _ hu hn'.symm (by simpa using hst)
 ·rename_i k v0 z xs hp;split at hn'<;>simp only[Option.some.injEq,reduceCtorEq] at hn';rename_i hst;rw[hp] at h1;obtain⟨_,f,hf,bs,hr,_⟩:=h1;simp only[Rd] at hr;obtain⟨_,ad,cap,hu,_⟩:=hr;exact fin _ _ _ hu hn'.symm (by simpa using hst)
 ·rename_i hp;split at hn'<;>simp only[Option.some.injEq,reduceCtorEq] at hn';rename_i hst;rw[hp] at h1;obtain⟨_,ad,hu⟩:=h1;exact fin _ _ _ hu (by simpa using hn'.symm) (by simpa using hst)
 ·rename_i k off len hp;split at hn'<;>simp only[Option.some.injEq,reduceCtorEq] at hn';rename_i hst;rw[hp] at h1;obtain⟨f,hf,hcap,ad,hu,had⟩:=ye h1;exact fin _ _ _ hu hn'.symm (by simpa using hst)
 ·rename_i b hp;split at hn'<;>simp only[Option.some.injEq,reduceCtorEq] at hn';rename_i hst;rw[hp] at h1;have hu:=Ki h1;subst hn';subst hst;refine qC R hd hn (yS _ _) ?_ hK;simp only[if_true] at ht;simp[execOp,ho,resolve,hu,invoke,builtin,Builtin.len_,hts,zp ht,goInt]
 ·cases hn'
theorem KE{h:Hp}{v:V}{u:Value}{n:Nat}(H:qK m h v u)(hv:v.nat=some n):∃k,u= .int k (n:Int):=by
 unfold V.nat at hv;split at hv
 ·rename_i k z;split at hv<;>simp only[Option.some.injEq,reduceCtorEq] at hv;rename_i h0;have:=ZB H;exact⟨k,by rw[this,←hv];simp;omega⟩
 ·cases hv
def zdM:Option Operand→Option Opd→Prop
 |none,none=>True
 |some x,some y=>zJ x=some y
 |_,_=>False
theorem zbu{P:Program}{len cap:Nat}{lo hi:Option Value}{l h:Nat}(hlo:match lo with|none=>l=0|some v=>∃k,v= .int k (l:Int))(hhi:match hi with|none=>h=len|some v=>∃k,v= .int k (h:Int))(h1:l≤h)(h2:h≤cap):
  (Instr.sliceBounds true len cap lo hi none).run P w= .ok (l,h,cap) w:=by
 have hb:∀(k:IntKind) (n y:Nat) (c:BoundsCode),n≤y→(Instr.sliceBound (.int k (n:Int)) y c).run P w= .ok n w:=by
  intro k n y c hny;have:(n:Int)≤(y:Int):=by omega
  simp[Instr.sliceBound,asIntOf,this]
 cases lo with
 |none=>
  simp only at hlo;subst hlo;cases hi with
  |none=>simp only at hhi;subst hhi;simp[Instr.sliceBounds]
  |some v=>simp only at hhi;obtain⟨k,rfl⟩:=hhi;simp[Instr.sliceBounds,hb k h cap _ h2]
 |some u=>
  simp only at hlo;obtain⟨k0,rfl⟩:=hlo;cases hi with
  |none=>simp only at hhi;subst hhi;simp[Instr.sliceBounds,hb k0 l h _ h1]
  |some v=>simp only at hhi;obtain⟨k,rfl⟩:=hhi;simp[Instr.sliceBounds,hb k h cap _ h2,hb k0 l h _ h1]
theorem zgR{P:Program}{len cap:Nat}{k1 k2:IntKind}{lo:Option Value}(hlo:∀v,lo=some v→∃k,v= .int k 0):
  (Instr.sliceBounds true len cap lo (some<|.int k1 0)<|some<|.int k2 0).run P w= .ok (0,0,0) w:=by
 have hb:∀(k:IntKind) (y:Nat) (c:BoundsCode),(Instr.sliceBound (.int k 0) y c).run P w= .ok 0 w:=by
  intro k y c;simp[Instr.sliceBound,asIntOf]
 cases lo with
 |none=>simp[Instr.sliceBounds,hb]
 |some v=>obtain⟨k,rfl⟩:=hlo v rfl;simp[Instr.sliceBounds,hb]
theorem YB(R:zt cx m s a w){x:Option Operand}{y:Option Opd}{dflt n:Nat}(hx:zdM x y)(hn:optNat s dflt y=some n):
  match x.map a.eval with|none=>n=dflt|some v=>∃k,v= .int k (n:Int):=by
 cases x with
 |none=>cases y with
  |none=>simp[optNat] at hn;simp[hn]
  |some _=>exact hx.elim
 |some o=>cases y with
  |none=>exact hx.elim
  |some y=>exact KE (R.opd hx) hn
theorem zT.room{n:Nat}{f:NI}{h:Hp}(H:zT cx m h n (s.hp n) (some f)):s.room n≤f.cap:=by
 unfold St.room;cases hk:s.hp n with
 |none=>simp
 |some k=>
  rw[hk] at H;cases k with
  |vars _ _=>simp
  |own _=>simp
  |data z xs own cp=>
   cases cp with
   |none=>simp
   |some c=>
    simp only[Option.getD_some];unfold zT at H;cases hb:f.blk with
    |none=>
     simp only[hb] at H;obtain⟨_,_,_,_,he,_,h3⟩:=H;cases he;rw[h3 c rfl];exact Nat.le_refl _
    |some b=>
     simp only[hb] at H;obtain⟨_,_,_,_,_,_,_,h3,_⟩:=H;rw[h3 c rfl];exact Nat.le_refl _
theorem zg0{P:Program}{len cap:Nat}{k2:IntKind}{lo hi:Option Value}{l h mm:Nat}(hlo:match lo with|none=>l=0|some v=>∃k,v= .int k (l:Int))(hhi:match hi with|none=>h=len|some v=>∃k,v= .int k (h:Int))(h1:l≤h)(h2:h≤mm)(h3:mm≤cap)(hs:hi.isSome=true):
  ∃x,(Instr.sliceBounds true len cap lo hi<|some<|.int k2 (mm:Int)).run P w= .ok x w:=by
 have hb:∀(k:IntKind) (n y:Nat) (c:BoundsCode),n≤y→(Instr.sliceBound (.int k (n:Int)) y c).run P w= .ok n w:=by
  intro k n y c hny;have:(n:Int)≤(y:Int):=by omega
  simp[Instr.sliceBound,asIntOf,this]
 cases hi with
 |none=>cases hs
 |some v=>
  simp only at hhi;obtain⟨k,rfl⟩:=hhi;cases lo with
  |none=>exact⟨_,by simp[Instr.sliceBounds,hb k2 mm cap _ h3,hb k h mm _ h2];rfl⟩
  |some u=>
   simp only at hlo;obtain⟨k3,rfl⟩:=hlo;exact⟨_,by simp[Instr.sliceBounds,hb k2 mm cap _ h3,hb k h mm _ h2,hb k3 l h _ h1];rfl⟩
theorem ziH(R:zt cx m s a w){d sz:Nat}{t e:TypeId}{x:Operand}{x':Opd}{lo hi mx:Option Operand}{lo' hi' mx':Option Opd}(ho:o.op= .slice t x lo hi mx)(ht:cx.P.underlying t=some (.slice e))(hsz:szP cx.P e=some sz)(hd:o.dst=some d)(hn:d < cx.n)(hx:zJ x=some x')
  (hlo:zdM lo lo') (hhi:zdM hi hi') (hmx:zdM mx mx') (hm2:mx'.isSome→hi'.isSome) {out:Out}
  (he:ev s (.slice d sz x' lo' hi' mx')=some out) (hK:∀m' a' w',zt cx m' (s.app out) a' w'→K a' w'):o.wp cx.P a w K Q:=by
 have h1:=R.opd hx;simp only[szP,omi] at hsz;obtain⟨i,hi0,hin⟩:=hsz;simp only[ev,omi] at he;obtain⟨v,hv,rfl⟩:=he;have run1:∀ad len cap l h,a.eval x= .slice ad len cap→(Instr.sliceBounds true len cap (lo.map a.eval) (hi.map a.eval)<|mx.map a.eval).run cx.P w= .ok (l,h,cap) w→
   (execOp a.eval o).run cx.P w= .ok (.value (.slice (if cap=l then ad else ad.map (·.add (l * sz))) (h - l) (cap - l))) w:=by
  intro ad len cap l h hu hb;simp only[execOp,ho,Instr.sliceAt,Instr.slice,hu,Sem.run_bind,zp ht,Result.andThen_ok,hb,qt hi0,hin];rfl
 have run0:∀ad len cap,a.eval x= .slice ad len cap→(Instr.sliceBounds true len cap (lo.map a.eval) (hi.map a.eval)<|mx.map a.eval).run cx.P w= .ok (0,0,0) w→
   (execOp a.eval o).run cx.P w= .ok (.value<|.slice ad 0 0) w:=by
  intro ad len cap hu hb;simp only[execOp,ho,Instr.sliceAt,Instr.slice,hu,Sem.run_bind,zp ht,Result.andThen_ok,hb,qt hi0,hin];rfl
 have zero:∀mm ad len cap,mx'=some mm→a.eval x= .slice ad len cap→mm.zero s (hi'.getD<|.t 0) (lo'.getD<|.c<|.one<|.d<|.int .i64 0)=some v→o.wp cx.P a w K Q:=by
  intro mm ad len cap hmm hu hz;subst hmm;cases mx with
  |none=>exact hmx.elim
  |some mo=>
   obtain⟨h',rfl⟩:=Option.isSome_iff_exists.1 (hm2 O);cases hi with
   |none=>exact hhi.elim
   |some ho'=>
    simp only[Opd.zero,obi,Option.getD_some] at hz;obtain⟨n1,hn1,n2,hn2,n3,hn3,hz⟩:=hz;split at hz<;>simp only[Option.some.injEq,reduceCtorEq] at hz;rename_i hz0;obtain⟨rfl,rfl,rfl⟩:=hz0;subst hz;obtain⟨k1,e1⟩:=KE (R.opd hmx) hn1;obtain⟨k2,e2⟩:=KE (R.opd hhi) hn2;refine qC R hd hn (v:= .one .zs) (u:= .slice ad 0 0) ⟨rfl,ad,rfl⟩ (run0 ad len cap hu ?_) hK;simp only[Option.map_some,e1,e2];refine zgR (fun u hu=> ?_);cases lo with
    |none=>cases hu
    |some lo=>
     cases hu;cases lo' with
     |none=>exact hlo.elim
     |some l'=>exact KE (R.opd hlo) hn3
 unfold St.cut at hv;split at hv
 ·rename_i z xs hp;rw[hp] at h1;simp only[obi] at hv;obtain⟨hh,hhh,ll,hll,hv⟩:=hv;split at hv<;>simp only[Option.some.injEq,reduceCtorEq] at hv;rename_i hc;obtain⟨rfl,hc1,hc2⟩:=hc;subst hv;cases mx with
  |some _=>exact hmx.elim
  |none=>
  obtain⟨ad,cap,hu,hr⟩:=Ky h1;have hcap:xs.length≤cap:=by
   rcases hr with rfl|⟨_,_,_,_,_,_,_,_,h,_⟩
   ·simp
   ·exact h
  refine qC R hd hn (v:= .one (.d<|.sl z<|(xs.drop ll).take (hh - ll))) (u:= .slice (if cap=ll then ad else ad.map (·.add (ll * z))) (hh - ll) (cap - ll)) ⟨rfl,?_⟩ (run1 ad _ cap ll hh hu<|zbu (YB R hlo hll) (YB R hhi hhh) hc1 (by omega)) hK;have hl2:((xs.drop ll).take (hh - ll)).length=hh - ll:=by simp only[List.length_take,List.length_drop];omega
  by_cases hemp:hh - ll=0
  ·refine⟨[],?_,by simp⟩;simp only[Rd];exact⟨_,cap - ll,by rw[hl2],.inl ⟨List.eq_nil_of_length_eq_zero (by omega),by simp⟩⟩
  ·rcases hr with rfl|⟨b,off,cells,T,fz,bs,rfl,hh',hl,hc,hr,hb,hbs⟩
   ·simp at hc2;omega
   obtain⟨c1,c2,rfl,_,hr2⟩:=hr.split ll;obtain⟨c3,c4,rfl,hr3,_⟩:=hr2.split (hh - ll);refine⟨b::c3,?_,fun c hc=> ?_⟩
   ·simp only[Rd];refine⟨_,cap - ll,by rw[hl2],.inr ⟨b,off+ll * z,cells,T,fz,c3,?_,hh',rfl,by omega,?_,by simp,?_⟩⟩
    ·rw[if_neg (by omega)];simp[Qp]
    ·have:ll * z+(cap - ll) * z=cap * z:=by rw[←Nat.add_mul];congr 1;omega
     omega
    ·rwa [List.drop_drop] at hr3
   ·rcases List.mem_cons.1 hc with rfl|hc
    ·exact hb
    ·exact hbs c (by simp[hc])
 ·rename_i k off len hp;rw[hp] at h1;simp only[obi] at hv;obtain⟨hh,hhh,ll,hll,hv⟩:=hv;split at hv<;>simp only[Option.some.injEq,reduceCtorEq] at hv;rename_i hc;obtain⟨hbz,hc1,hc2⟩:=hc;subst hv;cases mx with
  |some _=>exact hmx.elim
  |none=>
  obtain⟨f,hf,hcap,ad,hu,had⟩:=ye h1;have hN:=R.hp k;rw[hf] at hN;have hfs:=zT.sz hbz hN;have hroom:=zT.room hN;have hc2:hh≤f.cap - off:=by rcases hc2 with h|h<;>omega
  refine qC R hd hn (v:= .one (.sl k (off+ll) (hh - ll))) (u:= .slice (if f.cap - off=ll then ad else ad.map (·.add (ll * sz))) (hh - ll) (f.cap - off - ll)) ⟨rfl,f,hf,by omega,_,by rw[Nat.sub_sub],fun hlt=> ?_⟩ (run1 ad _ _ ll hh hu<|zbu (YB R hlo hll) (YB R hhi hhh) hc1 (by omega)) hK;obtain⟨b,hb,rfl⟩:=had (by omega);refine⟨b,hb,?_⟩;rw[if_neg (by omega)];simp[Qp,hfs,Nat.add_mul]
 ·rename_i hp;rw[hp] at h1;simp only[obi] at hv;obtain⟨hh,hhh,ll,hll,hv⟩:=hv;split at hv<;>simp only[Option.some.injEq,reduceCtorEq] at hv;rename_i hc;obtain⟨rfl,rfl⟩:=hc;subst hv;cases mx with
  |some _=>exact hmx.elim
  |none=>
  obtain⟨_,ad,hu⟩:=h1;refine qC R hd hn (v:= .one .zs) (u:= .slice ad 0 0) ⟨rfl,ad,rfl⟩ ?_ hK;have:=run1 ad 0 0 0 0 hu (zbu (YB R hlo hll) (YB R hhi hhh) (Nat.le_refl _)<|Nat.le_refl _);simpa using this
 ·rename_i mm z xs hp;rw[hp] at h1;obtain⟨ad,cap,hu,hr⟩:=Ky h1;exact zero mm ad _ cap O hu hv
 ·rename_i mm k off len hp;rw[hp] at h1;obtain⟨f,hf,hcap,ad,hu,had⟩:=ye h1;rw[Option.or_eq_some_iff] at hv;rcases hv with hv|⟨_,hv⟩
  ·exact zero mm ad _ _ O hu hv
  ·simp only[obi] at hv;obtain⟨q,hq,hh,hhh,ll,hll,hv⟩:=hv;split at hv<;>simp only[Option.some.injEq,reduceCtorEq] at hv;rename_i hc;subst hv;cases mx with
   |none=>exact hmx.elim
   |some mo=>
    obtain⟨h',rfl⟩:=Option.isSome_iff_exists.1 (hm2 O);cases hi with
    |none=>exact hhi.elim
    |some ho'=>
     obtain⟨k2,e2⟩:=KE (R.opd hmx) hq;obtain⟨x,hx⟩:=zg0 (w:=w) (P:=cx.P) (len:=len) (cap:=f.cap - off) (k2:=k2) (mm:=q) (YB R hlo hll) (YB R hhi hhh) hc.1 hc.2.1 (by omega) rfl;have hrun:∃u,(execOp a.eval o).run cx.P w= .ok (.value u) w:=by
      obtain⟨x1,x2,x3⟩:=x;refine⟨.slice (if x3=x1 then ad else ad.map (·.add (x1 * sz))) (x2 - x1) (x3 - x1),?_⟩;simp only[Option.map_some] at hx;simp only[execOp,ho,Instr.sliceAt,Instr.slice,hu,Sem.run_bind,zp ht,Result.andThen_ok,Option.map_some,e2,hx,qt hi0,hin];rfl
     obtain⟨u,hu'⟩:=hrun;exact qC R hd hn (v:= .top) (u:=u) trivial hu' hK
 ·rename_i mm hp;rw[hp] at h1;obtain⟨_,ad,hu⟩:=h1;exact zero mm ad _ _ O hu hv
 ·cases hv
end Go.AW
