/- From what a row's argument reads as to plain data, and from a contract to a row. Lemmas. Conditions: none. -/
import Derived.Test.YtpabbbmfcgnhdaaGreatYb
import Derived.ProofKit
set_option linter.unusedVariables false
namespace Go.AW
open Go.RowKit Go.ChangeShapes Go.WideShapes
def Rds(P:Program)(t:TypeId)(R:List D→Prop):Prop:=
 ∀(H:Type) (enc:TypeId×Value→H) (w:World) (fuel:Nat) (cs:List Value) (d:DataW H) (ps:List MemPlace),
  DataW.trod enc P w 0 (fun _=>true) true fuel t cs=some (d,ps)→∃ds,R ds∧∃bs,RdL false w.heap ds cs bs
theorem Rds.mono{P:Program}{t:TypeId}{R R':List D→Prop}(h:Rds P t R)(hr:∀ds,R ds→R' ds):Rds P t R':=fun H enc w fuel cs d ps e=>by
 obtain⟨ds,h1,h2⟩:=h H enc w fuel cs d ps e;exact⟨ds,hr ds h1,h2⟩
theorem RdL.one{o:Bool}{h:Hp}{d:D}{v:Value}{bs:List Nat}(hc:d.isCell=true)(H:Rd o h d v bs):RdL o h [d] [v] bs:=by
 simp only[RdL];exact⟨v,[],bs,[],rfl,by simp,hc,H,rfl,rfl⟩
theorem Rds.int{P:Program}{t:TypeId}{k:IntKind}(ht:P.underlying t=some (.int k)):Rds P t (fun ds=>∃n,inK k n∧ds=[.int k n]):=by
 intro H enc w fuel cs d ps h;cases fuel with
 |zero=>simp[DataW.trod] at h
 |succ fuel=>
  unfold DataW.trod at h;rw[ht] at h;split at h<;>try (simp at h;done)
  ·rename_i e;cases e
  ·rename_i k0 k' n e;cases e;split at h
   ·rename_i hc;obtain⟨rfl,hw⟩:=hc;simp only[Lit.wf,Bool.and_eq_true,decide_eq_true_eq] at hw;exact⟨_,⟨n,hw,rfl⟩,[],RdL.one O (by simp[Rd])⟩
   ·cases h
  all_goals (rename_i e;cases e)
theorem zbA{α:Type}{f:Nat→Option α}{n:Nat}{ys:List α}(h:(List.range n).mapM f=some ys):ys.length=n∧∀i,i < n→∃y,ys[i]? =some y∧f i=some y:=by
 have key:∀(l:List Nat) (ys:List α),l.mapM f=some ys→ys.length=l.length∧∀(j i:Nat),l[j]? =some i→∃y,ys[j]? =some y∧f i=some y:=by
  intro l;induction l with
  |nil=>intro ys h;simp at h;subst h;simp
  |cons a l ih=>
   intro ys h;simp only[List.mapM_cons,Option.pure_def,Option.bind_eq_bind,obi,Option.some.injEq] at h;obtain⟨y,hy,zs,hz,rfl⟩:=h;obtain⟨h1,h2⟩:=ih zs hz;refine⟨by simp[h1],fun j i hj=> ?_⟩;cases j with
   |zero=>simp at hj;subst hj;exact⟨y,by simp,hy⟩
   |succ j=>simp at hj;obtain⟨z,hz1,hz2⟩:=h2 j i hj;exact⟨z,by simpa using hz1,hz2⟩
 obtain⟨h1,h2⟩:=key _ _ h;refine⟨by simpa using h1,fun i hi=>h2 i i ?_⟩;simp[List.getElem?_range hi]
theorem zbr{w:World}{a:Addr}{n:Nat}{cs:List Value}(h:w.cells? 0 a n=some cs):cs.length=n∧∀i,i < n→w.cell? (a.add i)=cs[i]?:=by
 unfold World.cells? at h;rw[if_pos (Nat.zero_le _)] at h;obtain⟨h1,h2⟩:=zbA h;exact⟨h1,fun i hi=>by obtain⟨y,e1,e2⟩:=h2 i hi;rw[e1,e2]⟩
theorem ze9{P:Program}{α:Type}{f:α→List D}{ok:α→Prop}{e sz:Nat}(h0:0 < sz)(hsz:∀x,(f x).length=sz)(He:Rds P e (fun ds=>∃x,ok x∧ds=f x))
  {H:Type} {enc:TypeId×Value→H} {w:World} {fuel:Nat}:∀(n:Nat) (vs:List Value),(∀i,i < n→∃cs d,cs=(vs.drop (i * sz)).take sz∧DataW.trod enc P w 0 (fun _=>true) true fuel e cs=some d)→
  ∃xs:List α,xs.length=n∧(∀x∈xs,ok x)∧∃bs,RdLL false w.heap sz (xs.map f) vs bs
 |0,vs,_=>⟨[],rfl,by simp,[],by simp[RdLL]⟩
 |n+1,vs,hh=>by
  obtain⟨cs,⟨d,ps⟩,hcs,hd⟩:=hh 0 (by omega);obtain⟨ds,⟨x,hx,rfl⟩,b1,h1⟩:=He H enc w fuel cs d ps hd;obtain⟨xs,i1,i2,b2,i3⟩:=ze9 h0 hsz He n (vs.drop sz) (fun i hi=>by
   obtain⟨cs',d',e1,e2⟩:=hh (i+1) (by omega);refine⟨cs',d',?_,e2⟩;rw[e1,List.drop_drop];congr 2;rw[Nat.succ_mul,Nat.add_comm])
  refine⟨x::xs,by simp[i1],fun y hy=> ?_,b1++b2,?_⟩
  ·rcases List.mem_cons.1 hy with rfl|hy
   ·exact hx
   ·exact i2 y hy
  ·simp only[List.map_cons,RdLL];refine⟨b1,b2,rfl,hsz x,?_,i3⟩;simp only[Nat.zero_mul,List.drop_zero] at hcs;rw[←hcs];exact h1
theorem Rds.slice{P:Program}{α:Type}{f:α→List D}{ok:α→Prop}{t e sz:Nat}(ht:P.underlying t=some (.slice e))(hs:P.cellsOf e=sz)(h0:0 < sz)(hsz:∀x,(f x).length=sz)(He:Rds P e (fun ds=>∃x,ok x∧ds=f x)):
  Rds P t (fun ds=>∃xs:List α,okS ok xs∧ds=[.sl sz (xs.map f)]):=by
 intro H enc w fuel cs d ps h;cases fuel with
 |zero=>simp[DataW.trod] at h
 |succ fuel=>
  unfold DataW.trod at h;rw[ht] at h;split at h<;>try (simp at h;done)
  case h_7=>exact⟨_,⟨[],⟨by simp,by simp⟩,rfl⟩,[],RdL.one O (by simp[Rd])⟩
  case h_8 e' a len cap heq=>
   cases heq;simp only at h;split at h;rotate_left
   ·cases h
   rename_i hc;simp only[obi,omi] at h;obtain⟨elems,hel,rest,hre,_⟩:=h;obtain⟨hl1,he1⟩:=zbA hel;simp only[if_true] at hre;obtain⟨hl2,he2⟩:=zbA hre;by_cases hcap:cap=0
   ·have:len=0:=by omega
    subst this;exact⟨_,⟨[],⟨by simp,by simp⟩,rfl⟩,[],RdL.one O (by simp[Rd,hcap])⟩
   ·have each:∀i,i < cap→∃cs d,w.cells? 0 (a.add (i * sz)) sz=some cs∧DataW.trod enc P w 0 (fun _=>true) true fuel e cs=some d:=by
     intro i hi;by_cases hil:i < len
     ·obtain⟨y,_,hy⟩:=he1 i hil;rw[hs,obi] at hy;obtain⟨cs,e1,e2⟩:=hy;exact⟨cs,y,e1,e2⟩
     ·obtain⟨y,_,hy⟩:=he2 (i - len) (by omega);rw[hs,obi] at hy;obtain⟨cs,e1,e2⟩:=hy;rw[show len+(i - len)=i by omega] at e1;exact⟨cs,y,e1,e2⟩
    obtain⟨cs0,_,r0,_⟩:=each 0 (by omega);obtain⟨l0,r0⟩:=zbr r0;have c0:=r0 0 h0;simp only[Nat.zero_mul,Addr.add,if_true] at c0;have hsome:∃v,w.cell? a=some v:=by
     rw[c0];exact⟨cs0[0]'(by omega),by simp⟩
    obtain⟨v0,hv0⟩:=hsome;unfold World.cell? at hv0;split at hv0;rotate_left
    ·cases hv0
    rename_i cells T fz hb;split at hv0
    ·cases hv0
    rename_i hspot;have hsp:a.spot=none:=by cases hq:a.spot with
     |none=>rfl
     |some q=>rw[hq] at hspot;simp at hspot
    have cellAt:∀i,w.cell? (a.add i)=cells[a.off+i]?:=by
     intro i;unfold Addr.add;split
     ·rename_i e0;subst e0;unfold World.cell?;rw[hb];simp[hsp]
     ·unfold World.cell?;simp only[hb];simp
    have readAt:∀i,i < cap→∃cs d,cs=((cells.toList.drop a.off).drop (i * sz)).take sz∧DataW.trod enc P w 0 (fun _=>true) true fuel e cs=some d:=by
     intro i hi;obtain⟨cs,d,r1,r2⟩:=each i hi;obtain⟨l1,r1⟩:=zbr r1;refine⟨cs,d,?_,r2⟩;apply List.ext_getElem?;intro j;rw[List.getElem?_take];split
     ·rename_i hj;rw[←r1 j hj];have:(a.add (i * sz)).add j=a.add (i * sz+j):=by
       unfold Addr.add;by_cases e1:i * sz=0
       ·simp[e1]
       ·by_cases e2:j=0
        ·subst e2;simp[e1]
        ·rw[if_neg e2,if_neg e1,if_neg (by omega)];simp;omega
      rw[this,cellAt,List.getElem?_drop,List.getElem?_drop];simp
     ·rename_i hj;exact List.getElem?_eq_none (by omega)
    obtain⟨xs,i1,i2,bs,i3⟩:=ze9 h0 hsz He len _ (fun i hi=>readAt i (by omega));refine⟨_,⟨xs,⟨by omega,i2⟩,rfl⟩,a.block::bs,?_⟩;have hfit:a.off+cap * sz≤cells.size:=by
     obtain⟨cs,_,r1,_⟩:=each (cap - 1) (by omega);obtain⟨l1,r1⟩:=zbr r1;have c1:=r1 (sz - 1) (by omega);have:(a.add ((cap - 1) * sz)).add (sz - 1)=a.add ((cap - 1) * sz+(sz - 1)):=by
      unfold Addr.add;by_cases e1:(cap - 1) * sz=0
      ·simp[e1]
      ·by_cases e2:sz - 1=0
       ·simp[e2,e1]
       ·rw[if_neg e2,if_neg e1,if_neg (by omega)];simp;omega
     rw[this,cellAt] at c1;have hlt:a.off+((cap - 1) * sz+(sz - 1)) < cells.size:=by
      have h3:cs[sz - 1]? =some (cs[sz - 1]'(by omega)):=by simp
      rw[h3] at c1;exact(Array.getElem?_eq_some_iff.1 c1).1
     have:cap * sz=(cap - 1) * sz+sz:=by
      conv=>lhs;rw[show cap=(cap - 1)+1 by omega]
      rw[Nat.succ_mul]
     omega
    simp only[RdL,Rd,D.isCell];refine⟨_,[],a.block::bs,[],rfl,by simp,trivial,⟨some a,cap,by simp[i1],.inr ⟨a.block,a.off,cells,T,fz,bs,?_,hb,rfl,by simp only[List.length_map];omega,hfit,by simp,i3⟩⟩,rfl,rfl⟩;have:a=⟨a.block,a.off,none⟩:=by rw[←hsp]
    rw[←this]
  all_goals (rename_i e;cases e)
def zLH(P:Program):List Field→Nat→List (Nat×(List D→Prop))→Prop
 |[],_,[]=>True
 |f::fs,off,(n,R)::Rs=>f.offset=off∧P.cellsOf f.type=n∧Rds P f.type R∧zLH P fs (off+n) Rs
 |_,_,_=>False
theorem zba{P:Program}{W W':World}(hl:laidOutB P=true)(hb:Below W.heap.size W W'){H:Type}{enc:TypeId×Value→H}:∀{ts:List TypeId} {vs:List Value} {ds:List (DataW H)} {ps:List MemPlace},
  (∀t∈ts,P.readableRec t=true∧t < P.types.size)→(∀x∈ps,x.block < W.heap.size)→DataW.TrodAll enc P W 0 (fun _=>true) true ts vs ds ps→∀sp:Nat→Bool,(∀p∈ps,sp p.block=true)→DataW.TrodAll enc P W' 0 sp true ts vs ds ps
 |[],[],[],ps,_,_,h,_,_=>h
 |t::ts,v::vs,d::ds,ps,ht,hlt,h,sp,hsp=>by
  obtain⟨p,q,h1,h2,rfl⟩:=h;refine⟨p,q,?_,zba hl hb (fun t h=>ht t (by simp[h])) (fun x hx=>hlt x (by simp[hx])) h2 sp (fun x hx=>hsp x (by simp[hx])),rfl⟩;exact WideElems.Trod_stays hl (ht t (by simp)).1 (ht t (by simp)).2 h1 (fun x hx=>hb.same (hlt x (by simp[hx]))) (fun x hx=>hsp x (by simp[hx]))
 |[],_::_,_,_,_,_,h,_,_=>h.elim
 |[],[],_::_,_,_,_,h,_,_=>h.elim
 |_::_,[],_,_,_,_,h,_,_=>h.elim
 |_::_,_::_,[],_,_,_,h,_,_=>h.elim
theorem zi9{P:Program}{H:Type}{enc:TypeId×Value→H}{f:Func}{s:ChangeSpec}{apart fresh handsOn again:Bool}{W W':World}{args:Array Value}{ds gs:List (DataW H)}{before:List MemPlace}{tb:TypeId}
  (hl:laidOutB P=true) (hW:DataW.Whole enc P f.params.toList s.vars apart W args.toList ds gs before) (hv:s.vars=[]) (hs:s.fn H ds={results:=[.lit (.bool true)],args:=ds})
  (hty:∀t∈f.params.toList,P.readableRec t=true∧t < P.types.size) (hres:f.resultTypes=#[tb]) (htb:P.underlying tb=some .bool) (hb:Below W.heap.size W W'):s.post enc P f apart fresh handsOn again W args (.bool true) W':=by
 have hWW:=hW;have hlt:=fun x hx=>hW.lt x hx;obtain⟨p,q,hA,hV,rfl,hfz,hnd⟩:=hW;rw[hv] at hV;obtain⟨rfl,rfl⟩:=trodVars_none hV;simp only[List.append_nil] at *;have hargs:=zba hl hb hty hlt hA;have hbool:∀(b:Nat) (sp:Nat→Bool) (hd:Bool),DataW.TrodAll enc P W' b sp hd f.resultTypes.toList ((Value.bool true).resultList f.resultTypes.size) (s.fn H ds).results []:=by
  intro b sp hd;rw[hres,hs];refine⟨[],[],⟨1,?_⟩,rfl,rfl⟩;unfold DataW.trod;rw[htb];rfl
 have hok:∀(j:Nat) (t:TypeId) (r:Value),f.resultTypes[j]? =some t→((Value.bool true).resultList f.resultTypes.size)[j]? =some r→Value.okWide P W' .any 0 t r:=by
  intro j t r h1 h2;rw[hres] at h1 h2;cases j with
  |zero=>
   simp[Value.resultList] at h1 h2;subst h1;subst h2;simp[Value.okWide,htb,Cell.okWide,Cell.ok]
  |succ j=>simp at h1
 refine⟨ds,[],p,[],p,[],by simpa using hWW,by simpa using hbool _ _ _,?_,by rw[hv,List.append_nil,hs];exact rfl,hb.frame _,fun _=>⟨hok,(s.fn H ds).results++ds,[],p,⟨p,[],?_,by rw[hv];exact rfl,by simp,fun b off hp=> ?_,hnd⟩,fun x hx _=>hx⟩⟩
 ·rw[List.append_nil,hs];exact hargs _ (fun x hx=>by simpa using hlt x hx)
 ·have h1:=trodAll_append (hargs (fun _=>true) (fun _ _=>rfl)) (hbool 0 (fun _=>true) true);simpa using h1
 ·rw[hb.frozen (hlt _ hp)];exact hfz b off hp
theorem zhm{P:Program}{f:FuncId}{ds:List D}(hF:Fn P f (lent ds) true [.bool true]){w:World}{vs:List Value}{bss:List (List Nat)}(hA:kC w.heap (lent ds) vs bss):
  Calls P f vs.toArray w (fun e w'=>e= .returned (.bool true)∧Below w.heap.size w w'):=by
 refine Calls.mono (hF.2 w vs bss hA (by rw[y0];exact List.nodup_nil) (by rw[y0];simp)) fun e w' ⟨v,br,bm,he,hp⟩=> ?_;subst he;obtain⟨b,_,hr⟩:=hp.res;simp only[Rd] at hr;rw[hr.1];exact⟨rfl,⟨hp.os,hp.tape,hp.output,hp.size,fun k hk=>hp.kept k hk (by rw[y0];simp)⟩⟩
def zhZ(P:Program):List TypeId→List (D→Prop)→Prop
 |[],[]=>True
 |t::ts,R::Rs=>(∀(H:Type) (enc:TypeId×Value→H) (w:World) (base:Nat) (v:Value) (d:DataW H) (ps:List MemPlace),Value.okWide P w .any base t v→DataW.Trod enc P w 0 (fun _=>true) true t v d ps→∃x,R x∧∃bs,Rd false w.heap x v bs)∧zhZ P ts Rs
 |_,_=>False
def DsR:List (D→Prop)→List D→Prop
 |[],[]=>True
 |R::Rs,x::xs=>R x∧DsR Rs xs
 |_,_=>False
theorem DsR.nil{xs:List D}(h:DsR [] xs):xs=[]:=by
 cases xs with
 |nil=>rfl
 |cons _ _=>exact h.elim
theorem DsR.cons{R:D→Prop}{Rs:List (D→Prop)}{xs:List D}(h:DsR (R::Rs) xs):∃x ys,xs=x::ys∧R x∧DsR Rs ys:=by
 cases xs with
 |nil=>exact h.elim
 |cons x ys=>exact⟨x,ys,rfl,h.1,h.2⟩
theorem zdF{P:Program}{H:Type}{enc:TypeId×Value→H}{w:World}{base:Nat}:∀{ts:List TypeId} {Rs:List (D→Prop)} {vs:List Value} {ds:List (DataW H)} {ps:List MemPlace},zhZ P ts Rs→
  (∀(j:Nat) t v,ts[j]? =some t→vs[j]? =some v→Value.okWide P w .any base t v)→DataW.TrodAll enc P w 0 (fun _=>true) true ts vs ds ps→∃xs bss,DsR Rs xs∧kC w.heap (lent xs) vs bss
 |[],[],[],[],ps,_,_,_=>⟨[],[],trivial,trivial⟩
 |t::ts,R::Rs,v::vs,d::ds,ps,hR,hok,h=>by
  obtain⟨p,q,h1,h2,rfl⟩:=h;obtain⟨x,hx,bs,hr⟩:=hR.1 H enc w base v d p (hok 0 t v O O) h1;obtain⟨xs,bss,hxs,hrs⟩:=zdF hR.2 (fun j t v e1 e2=>hok (j+1) t v (by simpa using e1) (by simpa using e2)) h2;exact⟨x::xs,bs::bss,⟨hx,hxs⟩,hr,hrs⟩
 |[],_::_,_,_,_,h,_,_=>h.elim
 |_::_,[],_,_,_,h,_,_=>h.elim
 |[],[],_::_,_,_,_,_,h=>h.elim
 |[],[],[],_::_,_,_,_,h=>h.elim
 |_::_,_::_,[],_,_,_,_,h=>h.elim
 |_::_,_::_,_::_,[],_,_,_,h=>h.elim
theorem zJw{P:Program}{t:TypeId}{R:D→Prop}(hn:(match P.underlying t with|some (.struct _)=>false|some (.array _ _)=>false|_=>true)=true)(hR:Rds P t (fun ds=>∃x,R x∧x.isCell=true∧ds=[x])):
  ∀(H:Type) (enc:TypeId×Value→H) (w:World) (base:Nat) (v:Value) (d:DataW H) (ps:List MemPlace),Value.okWide P w .any base t v→DataW.Trod enc P w 0 (fun _=>true) true t v d ps→∃x,R x∧∃bs,Rd false w.heap x v bs:=by
 intro H enc w base v d ps hok ⟨fuel,h⟩;obtain⟨ds,⟨x,hx,hc,rfl⟩,bs,hr⟩:=hR H enc w fuel _ d ps h;simp only[RdL] at hr;obtain⟨u,us,b1,b2,e1,rfl,_,h1,rfl,rfl⟩:=hr;have:u=v:=by
  have ho:=j8 hc h1;cases v with
  |agg cs=>
   have e1:cs.toList=[u]:=e1;exfalso;unfold Value.okWide at hok;split at hok
   ·rename_i e;rw[e] at hn;cases hn
   ·rename_i e;rw[e] at hn;cases hn
   ·unfold Cell.okWide at hok;split at hok<;>simp_all [Cell.ok]
  |_=>simp[Value.cells] at e1;exact e1.symm
 subst this;exact⟨x,hx,_,h1⟩
theorem ziS{P:Program}{f:FuncId}{fn:Func}{s:ChangeSpec}{tb:TypeId}{Rs:List (D→Prop)}{H:Type}{enc:TypeId×Value→H}{apart fresh handsOn again:Bool}(hl:laidOutB P=true)(hv:s.vars=[])
  (hs:∀ds:List (DataW H),ds.length=fn.params.toList.length→s.fn H ds={results:=[.lit (.bool true)],args:=ds}) (hty0:(fn.params.toList.all fun t=>P.readableRec t&&decide (t < P.types.size))=true) (hres:fn.resultTypes=#[tb]) (htb:P.underlying tb=some .bool)
  (hR:zhZ P fn.params.toList Rs) (hF:∀xs,DsR Rs xs→Fn P f (lent xs) true [.bool true]) {W:World} {base:Nat} {args:Array Value} {ds gs:List (DataW H)} {before:List MemPlace}
  (hval:∀(j:Nat) t v,fn.params[j]? =some t→args[j]? =some v→Value.okWide P W .any base t v) (hW:DataW.Whole enc P fn.params.toList s.vars apart W args.toList ds gs before):
  Calls P f args W fun e W'=>∃v,e= .returned v∧s.post enc P fn apart fresh handsOn again W args v W':=by
 have hty:∀t∈fn.params.toList,P.readableRec t=true∧t < P.types.size:=by
  rw[List.all_eq_true] at hty0;intro t ht;have:=hty0 t ht;simpa using this
 have hA:DataW.TrodAll enc P W 0 (fun _=>true) true fn.params.toList args.toList ds (Classical.choose hW):=(Classical.choose_spec<|Classical.choose_spec hW).1;obtain⟨xs,bss,h1,h2⟩:=zdF hR (fun j t v e1 e2=>hval j t v (by simpa using e1) (by simpa using e2)) hA;have hlen:∀{ts:List TypeId} {vs:List Value} {ds:List (DataW H)} {ps:List MemPlace},DataW.TrodAll enc P W 0 (fun _=>true) true ts vs ds ps→ds.length=ts.length:=by
  intro ts;induction ts with
  |nil=>intro vs ds ps h;cases vs<;>cases ds<;>first|rfl|exact h.elim
  |cons t ts ih=>
   intro vs ds ps h;cases vs with
   |nil=>exact h.elim
   |cons v vs=>cases ds with
    |nil=>exact h.elim
    |cons d ds=>obtain⟨p,q,_,h2,_⟩:=h;simp[ih h2]
 have hc:=zhm (hF xs h1) h2;have ha:args.toList.toArray=args:=by simp
 rw[ha] at hc;exact Calls.mono hc fun e W' ⟨he,hb⟩=>⟨_,he,zi9 hl hW hv (hs ds<|hlen hA) hty hres htb hb⟩
end Go.AW
