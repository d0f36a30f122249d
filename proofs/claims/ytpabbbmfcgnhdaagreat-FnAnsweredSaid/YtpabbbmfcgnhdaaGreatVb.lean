/- Two more kinds of regions without an order: loads that need not wait for an append, and regions whose end is in order. Lemmas. Conditions: none. -/
import Derived.Test.YtpabbbmfcgnhdaaGreatV
set_option linter.unusedVariables false
namespace Go.AW
def RO.light(r:RO):Bool:=r.A.contains 2000003
def IOp.isLoad:IOp→Bool
 | .load ..=>true
 | .faddr ..=>true
 | .pick ..=>true
 |_=>false
def IOp.isLite:IOp→Bool
 | .mov ..=>true
 | .load ..=>true
 | .faddr ..=>true
 | .pick ..=>true
 | .iaddr ..=>true
 |_=>false
def RO.turns(r:RO):Bool:=r.g.o.isApp||r.A.contains 2000004
def C.cl(E:List Nat)(c:C):Bool:=(match c with| .any=>false|_=>true)&&!(c.has E)
def V.cl(E:List Nat):V→Bool
 | .one c=>c.cl E
 | .agg cs=>cs.all (C.cl E)
 |_=>false
def Blk.cl(E:List Nat):Blk→Bool
 | .vars _ cs=>cs.all (C.cl E)
 | .data ..=>true
 | .own _=>true
def zim(E:List Nat):Option Blk→Option Blk
 |some b=>if b.cl E then some b else none
 |none=>none
def St.void(E:List Nat)(s:St):St:={sl:=s.sl,hp:=fun n=>if E.contains n then none else zim E (s.hp n),gh:=s.gh}
theorem Zg(s:St)(ns:List Nat):s.erOpt ns=s.er ns:=by
 cases ns with
 |nil=>exact(St.er_nil s).symm
 |cons a l=>rfl
theorem C.er_cl{ns E:List Nat}{c:C}(h:(c.er ns).cl E=true):c.er ns=c:=by
 unfold C.er at h ⊢;split
 ·rename_i e;rw[if_pos e] at h;simp[C.cl] at h
 ·rfl
theorem zcr{ns E:List Nat}:∀{cs:List C},(cs.map<|C.er ns).all (C.cl E)=true→cs.map (C.er ns)=cs
 |[],_=>rfl
 |c::cs,h=>by
  simp only[List.map_cons,List.all_cons,Bool.and_eq_true] at h ⊢;rw[C.er_cl h.1,zcr h.2]
theorem V.er_cl{ns E:List Nat}{v:V}(h:(v.er ns).cl E=true):v.er ns=v:=by
 cases v with
 |top=>rfl
 |one c=>show V.one (c.er ns)=_;rw[C.er_cl h]
 |agg cs=>show V.agg (cs.map<|C.er ns)=_;rw[zcr h]
 |tup vs=>cases h
theorem Blk.er_cl{ns E:List Nat}{b:Blk}(h:(b.er ns).cl E=true):b.er ns=b:=by
 cases b with
 |data=>rfl
 |vars sz cs=>show Blk.vars sz (cs.map<|C.er ns)=_;rw[zcr h]
 |own=>rfl
theorem kA{ns E:List Nat}(hs:∀n∈ns,E.contains n=true){k:Nat}(h:E.contains k=false):ns.contains k=false:=by
 cases hk:ns.contains k with
 |false=>rfl
 |true=>rw[hs k (by simpa using hk)] at h;cases h
theorem Ptr.has_sub{ns E:List Nat}(hs:∀n∈ns,E.contains n=true){p:Ptr}(h:p.has E=false):p.has ns=false:=by
 cases p with
 |nm n i j=>exact kA hs h
 |bd=>rfl
theorem C.has_sub{ns E:List Nat}(hs:∀n∈ns,E.contains n=true){c:C}(h:c.has E=false):c.has ns=false:=by
 cases c with
 |sl n _ _=>exact kA hs h
 |sub n x=>
  have h:(E.contains n||E.contains (zI n))=false:=h;show(ns.contains n||ns.contains (zI n))=false;simp only[Bool.or_eq_false_iff] at h ⊢;exact⟨kA hs h.1,kA hs h.2⟩
 |ptr p=>exact Ptr.has_sub hs h
 |fn f caps=>
  have h:caps.any (Ptr.has E)=false:=h;show caps.any (Ptr.has ns)=false;rw[List.any_eq_false] at h ⊢;exact fun p hp=>by simpa using Ptr.has_sub hs (by simpa using h p hp)
 |_=>rfl
theorem C.cl_er{ns E:List Nat}(hs:∀n∈ns,E.contains n=true){c:C}(h:c.cl E=true):c.er ns=c:=by
 unfold C.er;rw[if_neg];simp only[C.cl,Bool.and_eq_true,Bool.not_eq_true'] at h;simp[C.has_sub hs h.2]
theorem V.cl_er{ns E:List Nat}(hs:∀n∈ns,E.contains n=true){v:V}(h:v.cl E=true):v.er ns=v:=by
 cases v with
 |top=>rfl
 |one c=>show V.one (c.er ns)=_;rw[C.cl_er hs h]
 |agg cs=>
  have h:cs.all (C.cl E)=true:=h;show V.agg (cs.map<|C.er ns)=_;congr 1;rw[List.all_eq_true] at h
  conv=>rhs;rw[←List.map_id cs]
  exact List.map_congr_left fun c hc=>C.cl_er hs (h c hc)
 |tup vs=>cases h
def Out.names(o:Out):List Nat:=o.er++o.hp.map (·.1)
def vw(lt:Bool)(E:List Nat)(r:RO)(s:St):St:=if lt&&r.light then s.void E else s
def Ok1(lt:Bool)(E:List Nat)(r:RO)(s:St):Prop:=lt=true→r.light=true→∀t∈r.g.reads,(s.sl t).cl E=true
def Ok2(lt:Bool)(E:List Nat)(r:RO)(o:Out):Prop:=lt=true→(r.turns=true→∀n∈o.names,E.contains n=true)∧(r.light=true→∀p,o.sl=some p→p.2.cl E=true)
def zeB(P:Program)(lt:Bool)(E:List Nat):List RO→St→(St→Prop)→Prop
 |[],s,Q=>Q s
 |r::rs,s,Q=>Ok1 lt E r s∧je P ((vw lt E r s).hide r.A) r.g fun out=>Ok2 lt E r out∧zeB P lt E rs (s.app out) Q
theorem zbX{P:Program}:∀{L:List RO} {s:St} {Q:St→Prop},Ka P L s Q→zeB P false [] L s Q
 |[],s,Q,h=>h
 |r::rs,s,Q,h=>by
  refine⟨fun h=>(by cases h),?_⟩;obtain⟨o,h1,h2,_⟩:=zaV h;have h2:=zbX h2;have e:(fun out=>Ok2 false [] r out∧zeB P false [] rs (s.app out) Q)=fun out=>zeB P false [] rs (s.app out) Q:=by
   funext out;simp[Ok2]
  rw[e];show je P (s.hide r.A) r.g _
  revert h1
  generalize s.hide r.A=s0;generalize r.g=g;intro h1;have mono:∀o',opA P s0 o' (·=o)→opA P s0 o' fun out=>zeB P false [] rs (s.app out) Q:=fun o' ho=>by
   unfold opA at ho ⊢;split at ho
   ·rcases ho with ho|⟨k,B,u,hc,hB,hv,hk⟩;rotate_left
    ·exact .inr ⟨k,B,u,hc,hB,hv,by rw[hk];exact h2⟩
    refine .inl ?_;unfold callB0 at ho ⊢;rw[qB] at ho ⊢;obtain⟨c,hc,ho⟩:=ho;refine⟨c,hc,?_⟩;rw[qB] at ho ⊢;obtain⟨ds,hds,o',md,rs,hf,ho⟩:=ho;refine⟨ds,hds,o',md,rs,hf,?_⟩;cases md with
    |true=>simp only[if_true] at ho ⊢;obtain⟨a1,a2,a3,a4⟩:=ho;exact⟨a1,a2,a3,by rw[a4];exact h2⟩
    |false=>simp only[Bool.false_eq_true,if_false] at ho ⊢;exact⟨ho.1,by rw[ho.2];exact h2⟩
   ·rw[qB] at ho ⊢;obtain⟨o',e1,e2⟩:=ho;exact⟨o',e1,by rw[e2];exact h2⟩
  unfold je at h1 ⊢;split at h1
  ·exact mono _ h1
  ·split at h1
   ·split at h1
    ·rename_i hw;simp only[if_pos hw];exact mono _ h1
    ·rename_i hw;simp only[if_neg hw];rw[h1];exact h2
   ·rw[h1];exact h2
   ·exact h1.elim
def zbb(P:Program)(lt:Bool)(E:List Nat):List RO→St→List Out→St→Prop
 |[],s,[],s'=>s'=s
 |r::rs,s,o::os,s'=>(Ok1 lt E r s∧je P ((vw lt E r s).hide r.A) r.g (·=o)∧Ok2 lt E r o∧qO r.g.o o)∧zbb P lt E rs (s.app o) os s'
 |_,_,_,_=>False
theorem zfc{P:Program}{lt:Bool}{E:List Nat}:∀{L:List RO} {s:St} {Q:St→Prop},zeB P lt E L s Q→∃os s',zbb P lt E L s os s'∧Q s'
 |[],s,Q,h=>⟨[],s,rfl,h⟩
 |r::rs,s,Q,h=>by
  obtain⟨h0,h⟩:=h;obtain⟨o,h1,h2,h3⟩:=zaV h;obtain⟨os,s',h4,h5⟩:=zfc h2.2;exact⟨o::os,s',⟨⟨h0,h1,h2.1,h3⟩,h4⟩,h5⟩
theorem zbb.len{P:Program}{lt:Bool}{E:List Nat}:∀{L:List RO} {s s':St} {os:List Out},zbb P lt E L s os s'→os.length=L.length
 |[],_,_,[],_=>rfl
 |_::_,_,_,_::_,h=>by simp[h.2.len]
 |[],_,_,_::_,h=>h.elim
 |_::_,_,_,[],h=>h.elim
theorem zbb.all{P:Program}{lt:Bool}{E:List Nat}:∀{L:List RO} {s s':St} {os:List Out},zbb P lt E L s os s'→∀k,qy (fun _=>true) k os s=s'
 |[],_,_,[],h,_=>h.symm
 |_::_,_,_,_::_,h,k=>by simp only[qy,if_true];exact h.2.all (k+1)
 |[],_,_,_::_,h,_=>h.elim
 |_::_,_,_,[],h,_=>h.elim
theorem zbb.at{P:Program}{lt:Bool}{E:List Nat}:∀{L:List RO} {s s':St} {os:List Out},zbb P lt E L s os s'→∀{i:Nat} {r:RO},L[i]? =some r→
  ∃o,os[i]? =some o∧(Ok1 lt E r (qy (fun p=>decide (p < i)) 0 os s)∧je P ((vw lt E r<|qy (fun p=>decide (p < i)) 0 os s).hide r.A) r.g (·=o)∧Ok2 lt E r o∧qO r.g.o o)
 |[],_,_,[],_,i,r,hr=>by simp at hr
 |r0::rs,s,s',o::os,h,0,r,hr=>by
  simp only[List.getElem?_cons_zero,Option.some.injEq] at hr;subst hr;refine⟨o,rfl,?_⟩;rw[Xe _ _ _ (fun p _=>by simp)];exact h.1
 |r0::rs,s,s',o::os,h,i+1,r,hr=>by
  simp only[List.getElem?_cons_succ] at hr;obtain⟨o',h1,h2⟩:=h.2.at hr;refine⟨o',by simpa using h1,?_⟩;simp only[qy,Nat.zero_lt_succ,decide_true,if_true];rw[zap];simpa using h2
 |[],_,_,_::_,h,_,_,_=>h.elim
 |_::_,_,_,[],h,_,_,_=>h.elim
def kE(x y:RO):Bool:=x.turns&&y.light&&y.g.g.isNone&&y.g.o.isLite&&
 (match x.g.o.dst with|some d=>!y.g.reads.contains d&&y.g.o.dst != some d&&y.A.contains d|none=>true)&&
 (match y.g.o.dst with|some d=>!x.g.reads.contains d|none=>true)
def zsQ(lt:Bool)(L:List RO):Bool:=L.zipIdx.all fun(y,q)=>(L.take q).zipIdx.all fun(x,p)=>y.dep.testBit p||(xI x.g y.g&&Yd y x.g&&Yd x y.g)||(lt&&(kE x y||kE y x))
def ziq(ops:List Oper)(L:List RO)(k:Nat)(lt:Bool):Bool:=
 ops.length == L.length&&L.all zcn&&(L.all fun r=>!r.light||(r.g.g.isNone&&r.g.o.isLite))&&zsQ lt (L.take k)&&((ops.zip L).zipIdx.all fun((o,r),q)=>r.dep == zcJ L o&&decide (r.dep < 2 ^ q)&&(Nat.blt q k||r.dep == 2 ^ q - 1))
structure zkw(ops:Array Oper)(L:List RO)(k:Nat)(lt:Bool):Prop where
 len:ops.size=L.length
 self:∀r∈L,zcn r=true
 lite:∀r∈L,r.light=true→r.g.g=none∧r.g.o.isLite=true
 pair:∀(p q:Nat) (x y:RO),p < q→(L.take k)[p]? =some x→(L.take k)[q]? =some y→y.dep.testBit p=true∨(xI x.g y.g=true∧Yd y x.g=true∧Yd x y.g=true)∨(lt=true∧(kE x y=true∨kE y x=true))
 dep:∀(q:Nat) (o:Oper) (r:RO),ops[q]? =some o→L[q]? =some r→(∀p,r.dep.testBit p=true↔∃e∈o.after,Region.binds .any e=true∧(e.on=p∨∃r,L[e.on]? =some r∧r.dep.testBit p=true))∧∀p,r.dep.testBit p=true→p < q
 tail:∀(q:Nat) (r:RO),k≤q→L[q]? =some r→∀p,p < q→r.dep.testBit p=true
theorem zdE{ops:Array Oper}{L:List RO}{k:Nat}{lt:Bool}(h:ziq ops.toList L k lt=true):zkw ops L k lt:=by
 unfold ziq at h;simp only[Bool.and_eq_true,beq_iff_eq] at h;obtain⟨⟨⟨⟨h1,h2⟩,h5⟩,h3⟩,h4⟩:=h;have hlen:ops.size=L.length:=by simpa using h1
 have hz:∀(q:Nat) (o:Oper) (r:RO),ops[q]? =some o→L[q]? =some r→r.dep=zcJ L o∧r.dep < 2 ^ q∧(q < k∨r.dep=2 ^ q - 1):=fun q o r ho hr=>by
  have hz:(ops.toList.zip L)[q]? =some (o,r):=by
   rw[List.getElem?_zip_eq_some];exact⟨by simpa using ho,hr⟩
  have:=Yu h4 hz;simp only[Bool.and_eq_true,beq_iff_eq,decide_eq_true_eq,Bool.or_eq_true,Nat.blt_eq] at this;exact⟨this.1.1,this.1.2,this.2⟩
 refine⟨hlen,fun r hr=>List.all_eq_true.1 h2 r hr,fun r hr hl=> ?_,fun p q x y hpq hx hy=> ?_,fun q o r ho hr=> ?_,fun q r hq hr p hp=> ?_⟩
 ·have:=List.all_eq_true.1 h5 r hr;rw[hl] at this;simpa[Option.isNone_iff_eq_none] using this
 ·have:=Yu h3 hy;simp only at this;have:=Yu this (i:=p) (a:=x) (by rw[List.getElem?_take];simp[hpq,hx]);simp only[Bool.or_eq_true,Bool.and_eq_true] at this;rcases this with(h|⟨⟨a,b⟩,c⟩)|⟨a,b⟩
  ·exact .inl h
  ·exact .inr (.inl ⟨a,b,c⟩)
  ·exact .inr (.inr ⟨a,b⟩)
 ·have:=hz q o r ho hr;exact⟨fun p=>by rw[this.1];exact Kz,fun p hp=>zbw this.2.1 hp⟩
 ·have hlt:q < ops.size:=by rw[hlen];exact(List.getElem?_eq_some_iff.1 hr).1
  have:=(hz q ops[q] r (by simp[hlt]) hr).2.2.resolve_left (by omega);rw[this,Nat.testBit_two_pow_sub_one];simpa using hp
structure KX(E:List Nat)(X Y:Nat→Prop)(s s':St):Prop where
 sl:∀t,X t→(s.sl t).cl E=true→s'.sl t=s.sl t
 hp:∀n,Y n→E.contains n=false→∀b,s.hp n=some b→b.cl E=true→s'.hp n=some b
def zh0(E:List Nat)(X:Nat→Prop)(o:Out):Prop:=(∀d,o.sl.map (·.1)=some d→¬X d)∧∀n∈o.names,E.contains n=true
theorem KX.app{E:List Nat}{X Y:Nat→Prop}{s s':St}(h:KX E X Y s s')(o:Out):KX E X Y (s.app o) (s'.app o) where
 sl t ht hc:=by
  rw[kL] at hc ⊢;rw[kL];simp only[Zg] at hc ⊢;have key:((s.er o.er).sl t).cl E=true→(s'.er o.er).sl t=(s.er o.er).sl t:=fun hc=>by
   have hc:((s.sl t).er o.er).cl E=true:=hc;show(s'.sl t).er o.er=(s.sl t).er o.er;rw[h.sl t ht (by rw[V.er_cl hc] at hc;exact hc)]
  cases ho:o.sl with
  |none=>rw[ho] at hc;exact key hc
  |some p=>
   rw[ho] at hc;simp only at hc ⊢;split
   ·rfl
   ·rename_i e;rw[if_neg e] at hc;exact key hc
 hp n hn hE b hb hc:=by
  rw[KG] at hb ⊢;cases hl:yR o.hp n with
  |some x=>rw[hl] at hb;simpa using hb
  |none=>
   rw[hl] at hb;simp only[Option.none_or,Zg] at hb ⊢;have hb:(if o.er.contains n then none else(s.hp n).map (Blk.er o.er))=some b:=hb;show(if o.er.contains n then none else(s'.hp n).map (Blk.er o.er))=some b;split at hb
   ·cases hb
   ·rename_i e;rw[if_neg e];rw[omi] at hb ⊢;obtain⟨b0,h0,e3⟩:=hb;have e2:b0.er o.er=b0:=Blk.er_cl (E:=E) (by rw[e3];exact hc);rw[e2] at e3;subst e3;exact⟨_,h.hp n hn hE _ h0 hc,e2⟩
theorem zeM{X Y:Nat→Prop}{o:Out}(h:XB X Y o)(s:St){t:Nat}(ht:X t):(s.app o).sl t=s.sl t:=(h.app s).sl t ht
theorem zfp{X Y:Nat→Prop}{o:Out}(h:XB X Y o)(s:St){n:Nat}(hn:Y n):(s.app o).hp n=s.hp n:=(h.app s).hp n hn
theorem KX.left{E:List Nat}{X Y:Nat→Prop}{s s':St}(h:KX E X Y s s'){o:Out}(u:XB X Y o):KX E X Y (s.app o) s' where
 sl t ht hc:=by rw[zeM u s ht] at hc ⊢;exact h.sl t ht hc
 hp n hn hE b hb hc:=by rw[zfp u s hn] at hb;exact h.hp n hn hE b hb hc
theorem KX.right{E:List Nat}{X Y:Nat→Prop}{s s':St}(h:KX E X Y s s'){o:Out}(u:XB X Y o):KX E X Y s (s'.app o) where
 sl t ht hc:=by rw[zeM u s' ht];exact h.sl t ht hc
 hp n hn hE b hb hc:=by rw[zfp u s' hn];exact h.hp n hn hE b hb hc
theorem KX.gone{E:List Nat}{X Y:Nat→Prop}{s s':St}(h:KX E X Y s s'){o:Out}(u:zh0 E X o):KX E X Y (s.app o) s' where
 sl t ht hc:=by
  rw[kL] at hc ⊢;simp only[Zg] at hc ⊢;have key:((s.er o.er).sl t).cl E=true→s'.sl t=(s.er o.er).sl t:=fun hc=>by
   have hc:((s.sl t).er o.er).cl E=true:=hc;show s'.sl t=(s.sl t).er o.er;have e:=V.er_cl hc;rw[e] at hc ⊢;exact h.sl t ht hc
  cases ho:o.sl with
  |none=>rw[ho] at hc;exact key hc
  |some p=>
   rw[ho] at hc;simp only at hc ⊢;have:¬t=p.1:=fun e=>u.1 p.1 (by simp[ho]) (e▸ht);rw[if_neg this] at hc ⊢;exact key hc
 hp n hn hE b hb hc:=by
  rw[KG] at hb;have hl:yR o.hp n=none:=Yx fun hm=>by
   have:=u.2 n (by unfold Out.names;exact List.mem_append_right _ hm);rw[hE] at this;cases this
  rw[hl] at hb;simp only[Option.none_or,Zg] at hb;have hb:(if o.er.contains n then none else(s.hp n).map (Blk.er o.er))=some b:=hb;split at hb
  ·cases hb
  ·rw[omi] at hb;obtain⟨b0,h0,e⟩:=hb;have e2:b0.er o.er=b0:=Blk.er_cl (E:=E) (by rw[e];exact hc);rw[e2] at e;subst e;exact h.hp n hn hE _ h0 hc
theorem Blk.cl_er{ns E:List Nat}(hs:∀n∈ns,E.contains n=true){b:Blk}(h:b.cl E=true):b.er ns=b:=by
 cases b with
 |data=>rfl
 |vars sz cs=>
  have h:cs.all (C.cl E)=true:=h;show Blk.vars sz (cs.map<|C.er ns)=_;congr 1;rw[List.all_eq_true] at h
  conv=>rhs;rw[←List.map_id cs]
  exact List.map_congr_left fun c hc=>C.cl_er hs (h c hc)
 |own=>rfl
theorem KX.come{E:List Nat}{X Y:Nat→Prop}{s s':St}(h:KX E X Y s s'){o:Out}(u:zh0 E X o):KX E X Y s (s'.app o) where
 sl t ht hc:=by
  rw[kL];have hE:∀n∈o.er,E.contains n=true:=fun n hn=>u.2 n (List.mem_append_left _ hn);have key:(s'.sl t).er o.er=s.sl t:=by
   rw[h.sl t ht hc];exact V.cl_er hE hc
  cases ho:o.sl with
  |none=>
   show(s'.erOpt o.er).sl t=_;rw[Zg];exact key
  |some p=>
   have:¬t=p.1:=fun e=>u.1 p.1 (by simp[ho]) (e▸ht);show(if t=p.1 then p.2 else(s'.erOpt o.er).sl t)=_;rw[if_neg this,Zg];exact key
 hp n hn hE b hb hc:=by
  rw[KG];have hl:yR o.hp n=none:=Yx fun hm=>by
   have:=u.2 n (by unfold Out.names;exact List.mem_append_right _ hm);rw[hE] at this;cases this
  have hne:o.er.contains n=false:=by
   rw[Bool.eq_false_iff];intro hm;have:=u.2 n (List.mem_append_left _ (by rwa [List.contains_iff_mem] at hm));rw[hE] at this;cases this
  rw[hl];simp only[Option.none_or,Zg];show(if o.er.contains n then none else(s'.hp n).map (Blk.er o.er))=some b;rw[hne,h.hp n hn hE b hb hc];simp only[Bool.false_eq_true,if_false,Option.map_some,Option.some.injEq];exact Blk.cl_er (fun n hn=>u.2 n (List.mem_append_left _ hn)) hc
theorem zep{E:List Nat}{X Y:Nat→Prop}{D D':Nat→Bool}:∀(os:List Out) (k:Nat) (s s':St),(∀p o,os[p]? =some o→D (k+p)=D' (k+p)∨XB X Y o∨(D (k+p)=true∧D' (k+p)=false∧zh0 E X o)∨(D (k+p)=false∧D' (k+p)=true∧zh0 E X o))→KX E X Y s s'→KX E X Y (qy D k os s) (qy D' k os s')
 |[],_,_,_,_,h=>h
 |o::os,k,s,s',hp,h=>by
  simp only[qy];refine zep os (k+1) _ _ (fun p o' ho=>by
   have:=hp (p+1) o' (by simpa using ho)
   rwa [show k+(p+1)=k+1+p by omega] at this) ?_
  have h0:=hp 0 o rfl;simp only[Nat.add_zero] at h0;rcases h0 with e|u|⟨e1,e2,u⟩|⟨e1,e2,u⟩
  ·rw[e];cases D' k with
   |true=>exact h.app o
   |false=>exact h
  ·cases D k<;>cases D' k
   ·exact h
   ·exact h.right u
   ·exact h.left u
   ·exact h.app o
  ·rw[e1,e2];exact h.gone u
  ·rw[e1,e2];exact h.come u
def zyi(o o':Out):Prop:=∀s:St,(s.app o).app o'=(s.app o').app o
theorem zeN{E:List Nat}{o o':Out}{d:Nat}{v:V}(h1:o'.er=[])(h2:o'.hp=[])(h3:o'.sl=some (d,v))(hv:v.cl E=true)(hE:∀n∈o.names,E.contains n=true)(hd:o.sl.map (·.1)≠some d):zyi o o':=fun s=>by
 have e':∀s:St,s.erOpt o'.er=s:=fun s=>by rw[h1];rfl
 have hve:v.er o.er=v:=V.cl_er (fun n hn=>hE n (List.mem_append_left _ hn)) hv;refine St.ext' (fun t=> ?_) (fun n=> ?_) ?_
 ·simp only[kL,e',h3,Zg];cases ho:o.sl with
  |none=>
   simp only;show(if t=d then v else(s.sl t).er o.er)=((s.app o').sl t).er o.er;rw[kL,h3,e'];simp only;split
   ·exact hve.symm
   ·rfl
  |some p=>
   simp only;have hne:¬p.1=d:=fun e=>hd (by simp[ho,e]);show(if t=d then v else if t=p.1 then p.2 else(s.sl t).er o.er)=(if t=p.1 then p.2 else((s.app o').sl t).er o.er);rw[kL,h3,e'];simp only;by_cases a:t=d
   ·rw[if_pos a,if_neg (fun b=>hne (b.symm.trans a)),if_pos a,hve]
   ·rw[if_neg a,if_neg a]
 ·simp only[KG,e',h2,yR,Option.none_or,Zg];show(yR o.hp n).or (if o.er.contains n then none else(s.hp n).map (Blk.er o.er))=(yR o.hp n).or (if o.er.contains n then none else((s.app o').hp n).map (Blk.er o.er));rw[KG,h2,e'];simp[yR]
 ·simp only[zf3,e',Zg];show(fun t=>(s.gh t).er o.er)=fun t=>((s.app o').gh t).er o.er;rw[zf3,e']
theorem zcH{D:Nat→Bool}{o:Out}:∀(os:List Out) (k:Nat) (s:St),(∀p o',os[p]? =some o'→D (k+p)=true→zyi o o')→qy D k os (s.app o)=(qy D k os s).app o
 |[],_,_,_=>rfl
 |o'::os,k,s,h=>by
  simp only[qy];have hrec:=fun s=>zcH os (k+1) s fun p o'' hp hd=>h (p+1) o'' (by simpa using hp) (by rw[←hd];congr 1;omega);cases hd:D k with
  |false=>simp only[Bool.false_eq_true,if_false];exact hrec s
  |true=>
   simp only[if_true];rw[h 0 o' O (by simpa using hd)];exact hrec _
theorem zeq{D D':Nat→Bool}{i:Nat}{o:Out}(hD:D i=false)(hD':∀p,D' p=(D p||p == i)):∀(os:List Out) (k:Nat) (s:St),k≤i→os[i - k]? =some o→
  (∀p o',os[p]? =some o'→i < k+p→D (k+p)=true→zyi o o')→qy D' k os s=(qy D k os s).app o
 |[],k,s,_,h,_=>by simp at h
 |o'::os,k,s,hk,h,hc=>by
  simp only[qy];by_cases e:k=i
  ·subst e;simp only[Nat.sub_self,List.getElem?_cons_zero,Option.some.injEq] at h;subst h;rw[hD' k,hD];simp only[beq_self_eq_true,Bool.or_true,if_true,Bool.false_eq_true,if_false];rw[x8 (D':=D) os (k+1) _ fun p hp hp'=>by rw[hD'];simp;omega];exact zcH os (k+1) s fun p o'' hp hd=>hc (p+1) o'' (by simpa using hp) (by omega) (by rw[←hd];congr 1;omega)
  ·have hki:k+1≤i:=by omega
   have:D' k=D k:=by rw[hD'];simp[e]
   rw[this];refine zeq hD hD' os (k+1) _ hki ?_ fun p o'' hp hlt hd=>hc (p+1) o'' (by simpa using hp) (by omega) (by rw[←hd];congr 1;omega);have e2:i - k=(i - (k+1))+1:=by omega
   rw[e2] at h;simpa using h
theorem zhz{P:Program}{g:GOp}{s s':St}{o:Out}(hg:g.g=none)(hl:g.o.isLite=true)(hs:∀t∈g.reads,s'.sl t=s.sl t)(hh:∀n b,s.hp n=some b→s'.hp n=some b)(h:je P s g (·=o)):je P s' g (·=o):=by
 obtain⟨gg,op⟩:=g;cases gg with
 |some=>cases hg
 |none=>
  cases op with
  |mov d x=>
   have hx:s'.ev x=s.ev x:=by
    cases x with
    |c v=>rfl
    |t n=>exact hs n (by simp[GOp.reads,IOp.opds,jX])
   have h:Qb (AW.ev s<|.mov d x) (·=o):=h;show Qb (AW.ev s'<|.mov d x) (·=o);have e:AW.ev s' (.mov d x)=AW.ev s (.mov d x):=by simp only[AW.ev,hx]
   rw[e];exact h
  |load d ag x=>
   have hx:s'.ev x=s.ev x:=by
    cases x with
    |c v=>rfl
    |t n=>exact hs n (by simp[GOp.reads,IOp.opds,jX])
   have hr:∀n v cs,s.rd n v=some cs→s'.rd n v=some cs:=fun n v cs h=>by
    unfold St.rd at h ⊢;split at h
    ·exact h
    ·exact h
    ·rename_i k i j;cases hb:s.hp k with
     |none=>rw[hb] at h;cases h
     |some b=>
      rw[hh k b hb];rw[hb] at h;exact h
    ·cases h
   have h:Qb (AW.ev s<|.load d ag x) (·=o):=h;show Qb (AW.ev s'<|.load d ag x) (·=o);rw[qB] at h ⊢;obtain⟨o',h,e⟩:=h;refine⟨o',?_,e⟩;simp only[AW.ev,hx] at h ⊢;cases ag with
   |none=>
    simp only[obi] at h ⊢;obtain⟨cs,h1,h2⟩:=h;exact⟨cs,hr _ _ _ h1,h2⟩
   |some n=>
    simp only[omi] at h ⊢;obtain⟨cs,h1,h2⟩:=h;exact⟨cs,hr _ _ _ h1,h2⟩
  |faddr d off x=>
   have hx:s'.ev x=s.ev x:=by
    cases x with
    |c v=>rfl
    |t n=>exact hs n (by simp[GOp.reads,IOp.opds,jX])
   have h:Qb (AW.ev s<|.faddr d off x) (·=o):=h;show Qb (AW.ev s'<|.faddr d off x) (·=o);have e:AW.ev s' (.faddr d off x)=AW.ev s (.faddr d off x):=by simp only[AW.ev,hx]
   rw[e];exact h
  |iaddr d sz x y=>
   have hx:∀t:Opd,t∈[x,y]→s'.ev t=s.ev t:=fun t ht=>by
    cases t with
    |c v=>rfl
    |t n=>exact hs n (by
      simp only[GOp.reads,IOp.opds,List.mem_append,List.mem_flatMap];exact .inr ⟨_,ht,by simp[jX]⟩)
   have h:Qb (AW.ev s<|.iaddr d sz x y) (·=o):=h;show Qb (AW.ev s'<|.iaddr d sz x y) (·=o);rw[qB] at h ⊢;obtain⟨o',h,e⟩:=h;refine⟨o',?_,e⟩;simp only[AW.ev,hx x (by simp),hx y (by simp),omi] at h ⊢;obtain⟨v,h1,h2⟩:=h;refine⟨v,?_,h2⟩;unfold St.at at h1 ⊢;split at h1
   ·exact h1
   ·exact h1
   ·exact h1
   ·exact h1
   ·rename_i n off len kk ix _ _;split at h1
    ·rename_i hc;have hz:s'.blkSz n=some sz:=by
      have h0:=hc.1;unfold St.blkSz at h0 ⊢;split at h0
      ·rename_i hb;rw[hh _ _ hb];exact h0
      ·rename_i hb;rw[hh _ _ hb];exact h0
      ·rename_i hb;rw[hh _ _ hb];exact h0
      ·cases h0
     rw[if_pos ⟨hz,hc.2⟩];exact h1
    ·cases h1
   ·cases h1
  |pick d x y z=>
   have hx:∀t:Opd,t∈[x,y,z]→s'.ev t=s.ev t:=fun t ht=>by
    cases t with
    |c v=>rfl
    |t n=>exact hs n (by simp only[GOp.reads,IOp.opds,List.mem_append,List.mem_flatMap];exact .inr ⟨_,ht,by simp[jX]⟩)
   have h:Qb (AW.ev s<|.pick d x y z) (·=o):=h;show Qb (AW.ev s'<|.pick d x y z) (·=o);have e:AW.ev s' (.pick d x y z)=AW.ev s (.pick d x y z):=by simp only[AW.ev,hx x (by simp),hx y (by simp),hx z (by simp)]
   rw[e];exact h
  |_=>cases hl
theorem zhV{P:Program}{g:GOp}{s s':St}{o:Out}(hg:g.g=none)(hl:g.o.isLite=true)(hc:g.o.calm=true)(hs:∀t∈g.reads,s'.sl t=s.sl t)(h:je P s g (·=o)):je P s' g (·=o):=by
 obtain⟨gg,op⟩:=g;cases gg with
 |some=>cases hg
 |none=>
  cases op with
  |mov d x=>
   have hx:s'.ev x=s.ev x:=by
    cases x with
    |c v=>rfl
    |t n=>exact hs n (by simp[GOp.reads,IOp.opds,jX])
   have h:Qb (AW.ev s<|.mov d x) (·=o):=h;show Qb (AW.ev s'<|.mov d x) (·=o);have e:AW.ev s' (.mov d x)=AW.ev s (.mov d x):=by simp only[AW.ev,hx]
   rw[e];exact h
  |faddr d off x=>
   have hx:s'.ev x=s.ev x:=by
    cases x with
    |c v=>rfl
    |t n=>exact hs n (by simp[GOp.reads,IOp.opds,jX])
   have h:Qb (AW.ev s<|.faddr d off x) (·=o):=h;show Qb (AW.ev s'<|.faddr d off x) (·=o);have e:AW.ev s' (.faddr d off x)=AW.ev s (.faddr d off x):=by simp only[AW.ev,hx]
   rw[e];exact h
  |pick d x y z=>
   have hx:∀t:Opd,t∈[x,y,z]→s'.ev t=s.ev t:=fun t ht=>by
    cases t with
    |c v=>rfl
    |t n=>exact hs n (by simp only[GOp.reads,IOp.opds,List.mem_append,List.mem_flatMap];exact .inr ⟨_,ht,by simp[jX]⟩)
   have h:Qb (AW.ev s<|.pick d x y z) (·=o):=h;show Qb (AW.ev s'<|.pick d x y z) (·=o);have e:AW.ev s' (.pick d x y z)=AW.ev s (.pick d x y z):=by simp only[AW.ev,hx x (by simp),hx y (by simp),hx z (by simp)]
   rw[e];exact h
  |load=>cases hc
  |iaddr=>cases hc
  |_=>cases hl
theorem YG{x y:RO}(h:kE x y=true):x.turns=true∧y.light=true∧y.g.g=none∧y.g.o.isLite=true∧(∀d,x.g.o.dst=some d→d∉y.g.reads∧y.g.o.dst≠some d)∧∀d,y.g.o.dst=some d→d∉x.g.reads:=by
 unfold kE at h;simp only[Bool.and_eq_true,Option.isNone_iff_eq_none] at h;obtain⟨⟨⟨⟨⟨h1,h2⟩,h3⟩,h4⟩,h5⟩,h6⟩:=h;refine⟨h1,h2,h3,h4,fun d hd=> ?_,fun d hd=> ?_⟩
 ·rw[hd] at h5;simp only[Bool.and_eq_true,Bool.not_eq_true',bne_iff_ne] at h5;exact⟨by simpa using h5.1.1,h5.1.2⟩
 ·rw[hd] at h6;simpa using h6
theorem zbl{o:IOp}(h:o.isLite=true):o.isApp=false∧o.loud=false∧o.allocs=false:=by
 cases o<;>first|exact⟨rfl,rfl,rfl⟩|cases h
theorem zhR{P:Program}{ops:Array Oper}{L:List RO}{k:Nat}{lt:Bool}{E:List Nat}{s s':St}{os:List Out}(H:zkw ops L k lt)(R:zbb P lt E (L.take k) s os s'){D:Nat→Bool}(hc:zox L D)(hlen:∀p,D p=true→p < (L.take k).length)
  {i:Nat} {r:RO} (hr:(L.take k)[i]? =some r) (hi:D i=false) (hdep:∀p,r.dep.testBit p=true→D p=true):
  ∃o,je P (qy D 0 os s) r.g (·=o)∧∀D',(∀p,D' p=(D p||p == i))→qy D' 0 os s=(qy D 0 os s).app o:=by
 obtain⟨o,ho,hok1,hst,hok2,hsh⟩:=R.at hr;have take:∀{p:Nat} {x:RO},(L.take k)[p]? =some x→L[p]? =some x:=fun{p x} h=>by
  rw[List.getElem?_take] at h;split at h
  ·exact h
  ·cases h
 have un:∀p x o',(L.take k)[p]? =some x→os[p]? =some o'→p≠i→(p < i→D p=false)→(i < p→D p=true)→((xI r.g x.g=true∨xI x.g r.g=true)∧Yd r x.g=true)∨(lt=true∧kE x r=true)∨(lt=true∧kE r x=true):=fun p x o' hx ho' hne hlt hgt=>by
  rcases Nat.lt_or_ge p i with h|h
  ·rcases H.pair p i x r h hx hr with e|e|e
   ·have:=hdep p e;rw[hlt h] at this;cases this
   ·exact .inl ⟨.inr e.1,e.2.1⟩
   ·obtain⟨e0,e|e⟩:=e
    ·exact .inr (.inl ⟨e0,e⟩)
    ·exact .inr (.inr ⟨e0,e⟩)
  ·have h':i < p:=by omega
   rcases H.pair i p r x h' hr hx with e|e|e
   ·have:=hc p x (take hx) (hgt h') i e;rw[hi] at this;cases this
   ·exact .inl ⟨.inl e.1,e.2.2⟩
   ·obtain⟨e0,e|e⟩:=e
    ·exact .inr (.inr ⟨e0,e⟩)
    ·exact .inr (.inl ⟨e0,e⟩)
 have place:∀p o',os[p]? =some o'→p=i∨D p=decide (p < i)∨∃x,(L.take k)[p]? =some x∧qO x.g.o o'∧Ok2 lt E x o'∧p≠i∧(p < i→D p=false)∧(i < p→D p=true):=fun p o' ho'=>by
  by_cases hpi:p=i
  ·exact .inl hpi
  ·have hpl:p < (L.take k).length:=by rw[←R.len];exact(List.getElem?_eq_some_iff.1 ho').1
   obtain⟨x,hx⟩:∃x,(L.take k)[p]? =some x:=⟨(L.take k)[p],List.getElem?_eq_getElem hpl⟩;obtain⟨o2,e1,_,_,K2,S⟩:=R.at hx;rw[ho'] at e1;cases e1;by_cases hcase:(p < i→D p=false)∧(i < p→D p=true)
   ·exact .inr (.inr ⟨x,hx,S,K2,hpi,hcase.1,hcase.2⟩)
   ·right;left;rcases Nat.lt_or_ge p i with h|h
    ·have:D p=true:=by
      cases hd:D p with
      |true=>rfl
      |false=>exact absurd ⟨fun _=>hd,fun h'=>by omega⟩ hcase
     rw[this];simp[h]
    ·have:D p=false:=by
      cases hd:D p with
      |false=>rfl
      |true=>exact absurd ⟨fun h'=>by omega,fun _=>hd⟩ hcase
     rw[this];simp;omega
 have lu:∀(x:RO) (o':Out),kE r x=true→qO x.g.o o'→XB (fun t=>t∈r.g.reads) (fun n=>r.g.o.calm=false∧r.A.contains (n / 64)=false) o':=fun x o' hl S=>by
  obtain⟨_,_,_,h4,_,h6⟩:=YG hl;obtain⟨a1,a2,a3⟩:=zbl h4;refine⟨S.er a1,fun d hd=>h6 d (by rw[←S.sl];exact hd),fun n hn=> ?_⟩;rw[S.hp0 a3 a2] at hn;simp at hn
 refine⟨o,?_,fun D' hD'=> ?_⟩
 ·cases hL:(lt&&r.light) with
  |false=>
   have A:kQ (fun t=>t∈r.g.reads) (fun n=>r.g.o.calm=false∧r.A.contains (n / 64)=false) (qy D 0 os s) (qy (fun p=>decide (p < i)) 0 os s):=by
    refine zal os 0 s s (fun p o' ho'=> ?_) ⟨fun _ _=>rfl,fun _ _=>rfl⟩;rw[Nat.zero_add];rcases place p o' ho' with hp|hp|⟨x,hx,S,K2,c0,c1,c2⟩
    ·subst hp;left;rw[hi];simp
    ·exact .inl hp
    ·right;rcases un p x o' hx ho' c0 c1 c2 with e|⟨e1,e2⟩|⟨e1,e2⟩
     ·exact XG e.1 e.2 S
     ·have:=(YG e2).2.1;rw[e1,this] at hL;cases hL
     ·exact lu x o' e2 S
   have hv:vw lt E r (qy (fun p=>decide (p < i)) 0 os s)=qy (fun p=>decide (p < i)) 0 os s:=by unfold vw;rw[hL];rfl
   rw[hv] at hst;refine zcL.step (s:=(qy (fun p=>decide (p < i)) 0 os s).hide r.A) ⟨fun t ht=> ?_,fun hcalm=>⟨fun n b hb=> ?_,fun d hd n hn hb=> ?_⟩⟩ hst
   ·rw[j9];exact A.sl t ht
   ·rw[xK] at hb;split at hb
    ·cases hb
    ·rename_i hA;rw[A.hp n ⟨hcalm,by simpa using hA⟩];exact hb
   ·have hself:=H.self r (List.mem_of_getElem?<|take hr);unfold zcn at hself;rw[hd] at hself;simp only[Bool.not_eq_true'] at hself;rw[xK,hn,hself] at hb;rw[A.hp n ⟨hcalm,by rw[hn];exact hself⟩];simpa using hb
  |true=>
   simp only[Bool.and_eq_true] at hL;have W:KX E (fun t=>t∈r.g.reads) (fun n=>r.g.o.calm=false∧r.A.contains (n / 64)=false) (qy (fun p=>decide (p < i)) 0 os s) (qy D 0 os s):=by
    refine zep os 0 s s (fun p o' ho'=> ?_) ⟨fun _ _ _=>rfl,fun _ _ _ _ h _=>h⟩;rw[Nat.zero_add];rcases place p o' ho' with hp|hp|⟨x,hx,S,K2,c0,c1,c2⟩
    ·subst hp;left;rw[hi];simp
    ·exact .inl hp.symm
    ·right;rcases un p x o' hx ho' c0 c1 c2 with e|⟨e1,e2⟩|⟨e1,e2⟩
     ·exact .inl (XG e.1 e.2 S)
     ·right;have sp:=YG e2;rcases Nat.lt_or_ge p i with hlt|hge
      ·exact .inl ⟨by simp[hlt],c1 hlt,fun d hd=>(sp.2.2.2.2.1 d (by rw[←S.sl];exact hd)).1,(K2 e1).1 sp.1⟩
      ·exact .inr ⟨by simp;omega,c2 (by omega),fun d hd=>(sp.2.2.2.2.1 d (by rw[←S.sl];exact hd)).1,(K2 e1).1 sp.1⟩
     ·exact .inl (lu x o' e2 S)
   have hload:=H.lite r (List.mem_of_getElem?<|take hr) hL.2;by_cases hcl0:r.g.o.calm=true
   ·refine zhV hload.1 hload.2 hcl0 (s:=(vw lt E r<|qy (fun p=>decide (p < i)) 0 os s).hide r.A) (fun t ht=> ?_) hst;have e:((vw lt E r<|qy (fun p=>decide (p < i)) 0 os s).hide r.A).sl t=(qy (fun p=>decide (p < i)) 0 os s).sl t:=by
     rw[j9];unfold vw;split<;>rfl
    rw[e];exact W.sl t ht (hok1 hL.1 hL.2 t ht)
   refine zhz hload.1 hload.2 (s:=(vw lt E r<|qy (fun p=>decide (p < i)) 0 os s).hide r.A) (fun t ht=> ?_) (fun n b hb=> ?_) hst
   ·have e:((vw lt E r<|qy (fun p=>decide (p < i)) 0 os s).hide r.A).sl t=(qy (fun p=>decide (p < i)) 0 os s).sl t:=by
     rw[j9];unfold vw;split<;>rfl
    rw[e];exact W.sl t ht (hok1 hL.1 hL.2 t ht)
   ·rw[xK] at hb;split at hb
    ·cases hb
    ·rename_i hA;have hb:(if E.contains n then none else zim E ((qy (fun p=>decide (p < i)) 0 os s).hp n))=some b:=by
      have:vw lt E r (qy (fun p=>decide (p < i)) 0 os s)=(qy (fun p=>decide (p < i)) 0 os s).void E:=by unfold vw;rw[hL.1,hL.2];rfl
      rw[this] at hb;exact hb
     split at hb
     ·cases hb
     ·rename_i hE;cases hb0:(qy (fun p=>decide (p < i)) 0 os s).hp n with
      |none=>rw[hb0] at hb;cases hb
      |some b0=>
       rw[hb0] at hb;unfold zim at hb;simp only at hb;split at hb
       ·rename_i hcl;cases hb;refine W.hp n ⟨?_,by simpa using hA⟩ (by simpa using hE) b hb0 hcl;exact Bool.eq_false_iff.2 hcl0
       ·cases hb
 ·refine zeq hi hD' os 0 s (Nat.zero_le _) (by simpa using ho) fun p o' ho' hlt hd=> ?_;rw[Nat.zero_add] at hlt hd;have hpl:p < (L.take k).length:=hlen p hd;obtain⟨x,hx⟩:∃x,(L.take k)[p]? =some x:=⟨(L.take k)[p],List.getElem?_eq_getElem hpl⟩;obtain⟨o2,e1,_,_,K2,S⟩:=R.at hx;rw[ho'] at e1;cases e1;rcases H.pair i p r x hlt hr hx with e|e|⟨e1,e2|e2⟩
  ·have:=hc p x (take hx) hd i e;rw[hi] at this;cases this
  ·exact fun s=>(zei e.1 hsh S).app s
  rotate_left
  ·obtain⟨h1,h2,h3,h4,h5,h6⟩:=YG e2;obtain⟨a1,a2,a3⟩:=zbl h4;obtain⟨d,hdst⟩:∃d,r.g.o.dst=some d:=by
    revert h4
    cases r.g.o<;>intro h4<;>first|exact⟨_,rfl⟩|cases h4
   have hsl:=hsh.sl;rw[hdst] at hsl;cases hv:o.sl with
   |none=>rw[hv] at hsl;cases hsl
   |some q=>
    obtain⟨qd,qv⟩:=q;rw[hv] at hsl;simp only[Option.map_some,Option.some.injEq] at hsl;subst hsl;exact fun s=>(zeN (hsh.er a1) (hsh.hp0 a3 a2) hv ((hok2 e1).2 h2 _ hv) ((K2 e1).1 h1) (fun e=>by
     rw[S.sl] at e;exact(h5 _ e).2 hdst) s).symm
  ·obtain⟨h1,h2,h3,h4,h5,h6⟩:=YG e2;obtain⟨a1,a2,a3⟩:=zbl h4;obtain⟨d,hdst⟩:∃d,x.g.o.dst=some d:=by
    revert h4
    cases x.g.o<;>intro h4<;>first|exact⟨_,rfl⟩|cases h4
   have hsl:=S.sl;rw[hdst] at hsl;cases hv:o'.sl with
   |none=>rw[hv] at hsl;cases hsl
   |some q=>
    obtain⟨qd,qv⟩:=q;rw[hv] at hsl;simp only[Option.map_some,Option.some.injEq] at hsl;subst hsl;refine zeN (S.er a1) (S.hp0 a3 a2) hv ((K2 e1).2 h2 _ hv) ((hok2 e1).1 h1) fun e=> ?_;rw[hsh.sl] at e;exact(h5 _ e).2 hdst
variable {cx:Cx} {Q:Exit→Act→World→Prop} {ops:Array Oper}
structure zHb(ops:Array Oper)(L:List RO)(k:Nat):Prop where
 len:ops.size=L.length
 dep:∀(q:Nat) (o:Oper) (r:RO),ops[q]? =some o→L[q]? =some r→(∀p,r.dep.testBit p=true↔∃e∈o.after,Region.binds .any e=true∧(e.on=p∨∃r,L[e.on]? =some r∧r.dep.testBit p=true))∧∀p,r.dep.testBit p=true→p < q
 tail:∀(q:Nat) (r:RO),k≤q→L[q]? =some r→∀p,p < q→r.dep.testBit p=true
theorem zd0{L:List RO}{k:Nat}(H:zHb ops L k):∀(fuel j:Nat) (listed:Array Bool) (a:Act) (w:World),k≤j→j≤ops.size→ops.size - j≤fuel→listed.size=ops.size→(∀q,q < ops.size→(listed.getD q false=true↔q < j))→
  wpList cx.P ops Q (ops.toList.drop j) a w→wpAny cx.P .any ops Q fuel listed a w:=by
 have noready:∀(j:Nat) (listed:Array Bool),listed.size=ops.size→(∀q,q < ops.size→(listed.getD q false=true↔q < j))→ops.size≤j→Region.ready .any ops listed=[]:=fun j listed hsz hl hj=>by
  apply List.eq_nil_iff_forall_not_mem.2;intro q hq;obtain⟨h0,o,ho,_⟩:=mem_ready.1 hq;have hqs:q < ops.size:=(Array.getElem?_eq_some_iff.1 ho).1;have:=(hl q hqs).2 (by omega);rw[ZX (by omega) true false,this] at h0;cases h0
 intro fuel;induction fuel with
 |zero=>
  intro j listed a w hk hj hf hsz hl h;have e:j=ops.size:=by omega
  subst e;rw[List.drop_of_length_le (by simp)] at h;exact⟨noready _ listed hsz hl<|Nat.le_refl _,h⟩
 |succ fuel ih=>
  intro j listed a w hk hj hf hsz hl h;refine⟨fun hr=> ?_,fun i hi=> ?_⟩
  ·rcases Nat.lt_or_ge j ops.size with hlt|hge
   ·exfalso;obtain⟨r,hr'⟩:∃r,L[j]? =some r:=⟨L[j]'(by rw[←H.len];exact hlt),List.getElem?_eq_getElem _⟩;have:j∈Region.ready .any ops listed:=by
     rw[mem_ready];refine⟨?_,ops[j],by simp[hlt],fun e he hb=> ?_⟩
     ·rw[ZX (by omega) true false];cases hd:listed.getD j false with
      |false=>rfl
      |true=>have:=(hl j hlt).1 hd;omega
     ·have hd:=H.dep j ops[j] r (by simp[hlt]) hr';have:=hd.2 e.on ((hd.1 e.on).2 ⟨e,he,hb,.inl rfl⟩);exact(hl e.on (by omega)).2 this
    rw[hr] at this;cases this
   ·rw[List.drop_of_length_le (by simp;omega)] at h;exact h
  ·obtain⟨h0,o,ho,hall⟩:=mem_ready.1 hi;have his:i < ops.size:=(Array.getElem?_eq_some_iff.1 ho).1;rw[ZX (by omega) true false] at h0;have hij:j≤i:=by
    rcases Nat.lt_or_ge i j with h'|h'
    ·have:=(hl i his).2 h';rw[h0] at this;cases this
    ·exact h'
   obtain⟨r,hr'⟩:∃r,L[i]? =some r:=⟨L[i]'(by rw[←H.len];exact his),List.getElem?_eq_getElem _⟩;have all:∀m p q r,q < m→q < ops.size→(∃o,ops[q]? =some o)→L[q]? =some r→r.dep.testBit p=true→(∀o,ops[q]? =some o→∀e∈o.after,Region.binds .any e=true→listed.getD e.on false=true)→p < j:=by
    intro m;induction m with
    |zero=>intro p q r hq;omega
    |succ m ihm=>
     intro p q r hqm hqs ⟨o',ho'⟩ hr hb hal;have hd:=H.dep q o' r ho' hr;obtain⟨e,he,heb,h⟩:=(hd.1 p).1 hb;have h1:=hal o' ho' e he heb;have hon:=hd.2 e.on ((hd.1 e.on).2 ⟨e,he,heb,.inl rfl⟩);have hon2:=(hl e.on (by omega)).1 h1;rcases h with rfl|⟨r2,hr2,hb2⟩
     ·exact hon2
     ·have:=(H.dep e.on ops[e.on] r2 (by simp[show e.on < ops.size by omega]) hr2).2 p hb2;omega
   have eij:i=j:=by
    rcases Nat.lt_or_ge j i with h'|h'
    ·have:=all (i+1) j i r (by omega) his ⟨o,ho⟩ hr' (H.tail i r (by omega) hr' j h') (fun o' ho'=>by rw[ho] at ho';cases ho';exact hall);omega
    ·omega
   subst eij;have hdrop:ops.toList.drop i=o::ops.toList.drop (i+1):=by
    have hlt:i < ops.toList.length:=by simpa using his
    rw[List.drop_eq_getElem_cons hlt];congr 1;have:ops[i]? =some ops[i]:=by simp[his]
    rw[this] at ho;cases ho;simp
   rw[hdrop] at h;have hset:∀q,q < ops.size→((listed.setIfInBounds i true).getD q false=true↔q < i+1):=fun q hq=>by
    rw[Array.getD_eq_getD_getElem?,Array.getElem?_setIfInBounds];by_cases e:i=q
    ·subst e;simp[hsz,his]
    ·rw[if_neg e];have:=hl q hq;rw[Array.getD_eq_getD_getElem?] at this;rw[this];omega
   have step:∀a w,wpList cx.P ops Q (ops.toList.drop (i+1)) a w→wpAny cx.P .any ops Q fuel (listed.setIfInBounds i true) a w:=fun a w h=>ih (i+1) _ a w (by omega) (by omega) (by omega) (by simp[hsz]) hset h;unfold wpOp;simp only[ho];unfold wpList at h;split
   ·rename_i hw;rw[if_pos hw] at h;exact h.imp (Oper.wp_mono step) id
   ·rename_i hw;rw[if_neg hw] at h;exact step _ _ h
theorem zgF{L:List RO}{k:Nat}{lt:Bool}{E:List Nat}{s s':St}{os:List Out}(H:zkw ops L k lt)(hG:∀(i:Nat) (o:Oper) (r:RO),ops[i]? =some o→(L.take k)[i]? =some r→toG cx.P cx.n ops o=some r.g)(R:zbb cx.P lt E (L.take k) s os s')
  (hQ:∀m' a' w',zt cx m' s' a' w'→wpList cx.P ops Q (ops.toList.drop k) a' w'):∀(fuel:Nat) (listed:Array Bool) (m:M) (a:Act) (w:World),listed.size=ops.size→left L (fun p=>listed.getD p false)≤fuel→
   zox L (fun p=>listed.getD p false)→(∀p,listed.getD p false=true→p < (L.take k).length)→zt cx m (qy (fun p=>listed.getD p false) 0 os s) a w→wpAny cx.P .any ops Q fuel listed a w:=by
 have fin:∀(fuel:Nat) (listed:Array Bool) (m:M) (a:Act) (w:World),listed.size=ops.size→left L (fun p=>listed.getD p false)≤fuel→(∀p,listed.getD p false=true→p < (L.take k).length)→(∀q,q < (L.take k).length→listed.getD q false=true)→zt cx m (qy (fun p=>listed.getD p false) 0 os s) a w→wpAny cx.P .any ops Q fuel listed a w:=fun fuel listed m a w hsz hl hlen hall RM=>by
  rw[x8 (D':=fun _=>true) os 0 s (fun p _ hp=>by rw[R.len,Nat.zero_add] at hp;exact hall p hp),R.all 0] at RM;have h:=hQ m a w RM;rcases Nat.lt_or_ge k L.length with hk|hk
  ·have e:(L.take k).length=k:=by simp;omega
   refine zd0 ⟨H.len,H.dep,H.tail⟩ fuel k listed a w (Nat.le_refl _) (by rw[H.len];omega) ?_ hsz (fun q hq=>⟨fun h=>by have:=hlen q h;omega,fun h=>hall q (by omega)⟩) h;have:ops.size - k≤left L (fun p=>listed.getD p false):=by
    unfold left;rw[H.len];have e2:List.range L.length=List.range k++(List.range (L.length - k)).map (k+ ·):=by
     rw[←List.range_add];congr 1;omega
    rw[e2,List.countP_append];have:((List.range (L.length - k)).map (k+ ·)).countP (fun p=>!listed.getD p false)=((List.range (L.length - k)).map (k+ ·)).length:=by
     rw[List.countP_eq_length];intro x hx;simp only[List.mem_map,List.mem_range] at hx;obtain⟨y,hy,rfl⟩:=hx;cases hd:listed.getD (k+y) false with
     |false=>rfl
     |true=>have:=hlen _ hd;omega
    rw[this];simp
   omega
  ·have e:(L.take k).length=L.length:=by simp;omega
   refine zd0 (k:=L.length) ⟨H.len,H.dep,fun q r hq hr=>by have:=(List.getElem?_eq_some_iff.1 hr).1;omega⟩ fuel L.length listed a w (Nat.le_refl _) (by rw[H.len];exact Nat.le_refl _) (by rw[H.len];omega) hsz (fun q hq=>⟨fun h=>by have:=hlen q h;omega,fun h=>hall q (by omega)⟩) ?_;rw[List.drop_of_length_le (by rw[Array.length_toList,H.len];exact hk)] at h;rw[List.drop_of_length_le (by simp[H.len])];exact h
 intro fuel;induction fuel with
 |zero=>
  intro listed m a w hsz hl hb hlen RM;refine fin 0 listed m a w hsz hl hlen (fun q hq=> ?_) RM;have:left L (fun p=>listed.getD p false)=0:=by omega
  unfold left at this;rw[List.countP_eq_zero] at this;have:=this q (by rw[List.mem_range];simp at hq;omega);simpa using this
 |succ fuel ih=>
  intro listed m a w hsz hl hb hlen RM;by_cases hdone:∀q,q < (L.take k).length→listed.getD q false=true
  ·exact fin _ listed m a w hsz hl hlen hdone RM
  ·have first:∃q,q < (L.take k).length∧listed.getD q false=false∧∀p,p < q→listed.getD p false=true:=by
    have:∀n,(∀p,p < n→listed.getD p false=true)∨∃q,q < n∧listed.getD q false=false∧∀p,p < q→listed.getD p false=true:=by
     intro n;induction n with
     |zero=>exact .inl fun p hp=>by omega
     |succ n ihn=>
      rcases ihn with h|⟨q,h1,h2⟩
      ·cases hd:listed.getD n false with
       |false=>exact .inr ⟨n,by omega,hd,h⟩
       |true=>
        refine .inl fun p hp=> ?_;by_cases e:p=n
        ·subst e;exact hd
        ·exact h p (by omega)
      ·exact .inr ⟨q,by omega,h2⟩
    rcases this (L.take k).length with h|h
    ·exact absurd h hdone
    ·exact h
   obtain⟨q0,hq0,hq1,hq2⟩:=first
   have hq0k:q0 < k∧q0 < L.length:=by simp at hq0;omega
   refine⟨fun hr=> ?_,fun i hi=> ?_⟩
   ·exfalso;obtain⟨r,hr'⟩:∃r,L[q0]? =some r:=⟨L[q0],List.getElem?_eq_getElem hq0k.2⟩;have hqs:q0 < ops.size:=by rw[H.len];exact hq0k.2
    have:q0∈Region.ready .any ops listed:=by
     rw[mem_ready];refine⟨by rw[ZX (by omega) true false];exact hq1,ops[q0],by simp[hqs],fun e he hb=> ?_⟩;have:=H.dep q0 ops[q0] r (by simp[hqs]) hr';exact hq2 e.on (this.2 _<|(this.1 e.on).2 ⟨e,he,hb,.inl rfl⟩)
    rw[hr] at this;cases this
   ·obtain⟨h0,o,ho,hall⟩:=mem_ready.1 hi;have his:i < ops.size:=(Array.getElem?_eq_some_iff.1 ho).1;have hiL:i < L.length:=by rw[←H.len];exact his
    rw[ZX (by omega) true false] at h0;obtain⟨r,hr⟩:∃r,L[i]? =some r:=⟨L[i],List.getElem?_eq_getElem hiL⟩;have hdepS:=H.dep i o r ho hr;have hdep:∀p,r.dep.testBit p=true→listed.getD p false=true:=fun p hp=>by
     obtain⟨e,he,heb,h⟩:=(hdepS.1 p).1 hp;have he1:=hall e he heb;rcases h with rfl|⟨r',hr',hp'⟩
     ·exact he1
     ·exact hb _ r' hr' he1 p hp'
    have hik:i < k:=by
     rcases Nat.lt_or_ge i k with h|h
     ·exact h
     ·have:=hdep q0 (H.tail i r h hr q0 (by omega));rw[hq1] at this;cases this
    have hrk:(L.take k)[i]? =some r:=by rw[List.getElem?_take,if_pos hik];exact hr
    obtain⟨out,hst,hadd⟩:=zhR H R (D:=fun p=>listed.getD p false) hb hlen hrk h0 hdep;have hset:∀p,(listed.setIfInBounds i true).getD p false=(listed.getD p false||p == i):=fun p=>by
     rw[Array.getD_eq_getD_getElem?,Array.getD_eq_getD_getElem?,Array.getElem?_setIfInBounds];by_cases e:i=p
     ·subst e;simp[hsz,his]
     ·have:(p == i)=false:=by simp;omega
      simp[e,this]
    have hnext:=hadd (fun p=>(listed.setIfInBounds i true).getD p false) hset;have key:=x4 (Q:=Q) (ops:=ops) (K:=wpAny cx.P .any ops Q fuel (listed.setIfInBounds i true)) RM (hG i o r ho hrk) hst (fun out' e m' a' w' R'=>by
     have e':out'=out:=e;rw[e'] at R';refine ih _ m' a' w' (by simp[hsz]) ?_ ?_ ?_ (by rw[hnext];exact R')
     ·have:left L (fun p=>(listed.setIfInBounds i true).getD p false) < left L (fun p=>listed.getD p false):=by
       unfold left;refine zcz (fun p _ hp=> ?_) ⟨i,List.mem_range.2 hiL,by simp[h0],by show(!(listed.setIfInBounds i true).getD i false)=false;rw[hset];simp⟩;have hp':(!(listed.setIfInBounds i true).getD p false)=true:=hp;rw[hset] at hp';simp only[Bool.not_or,Bool.and_eq_true] at hp';exact hp'.1
      omega
     ·intro q r' hr' hq p hp;have hq:(listed.setIfInBounds i true).getD q false=true:=hq;show(listed.setIfInBounds i true).getD p false=true;rw[hset] at hq ⊢;simp only[Bool.or_eq_true,beq_iff_eq] at hq ⊢;left;rcases hq with hq|rfl
      ·exact hb q r' hr' hq p hp
      ·rw[hr] at hr';cases hr';exact hdep p hp
     ·intro p hp;rw[hset] at hp;simp only[Bool.or_eq_true,beq_iff_eq] at hp;rcases hp with hp|rfl
      ·exact hlen p hp
      ·exact(List.getElem?_eq_some_iff.1 hrk).1)
    unfold wpOp;simp only[ho];split
    ·rename_i hw;rw[if_pos hw] at key;exact .inl key
    ·rename_i hw;rw[if_neg hw] at key;exact key
theorem zdG{L:List RO}{k:Nat}{lt:Bool}{E:List Nat}{m:M}{s:St}{a:Act}{w:World}{Q':St→Prop}{id:Nat}(hm:cx.P.follows .mixedOrders=true)(hok:ziq ops.toList L k lt=true)
  (hG:ops.toList.mapM (toG cx.P cx.n ops)=some (L.map (·.g))) (R:zt cx m s a w) (h:zeB cx.P lt E (L.take k) s Q') (hQ:∀s',Q' s'→∀m' a' w',zt cx m' s' a' w'→wpList cx.P ops Q (ops.toList.drop k) a' w'):
  (Code.region id ops true).wp cx.P Q a w:=by
 obtain⟨os,s',hr,hq⟩:=zfc h;have H:=zdE hok;refine wp_region_any hm (zgF H (fun i o r ho hr'=> ?_) hr (hQ s' hq) ops.size _ m a _ (by simp) ?_ ?_ ?_ ?_)
 ·have hr':L[i]? =some r:=by
   rw[List.getElem?_take] at hr';split at hr'
   ·exact hr'
   ·cases hr'
  have:=YD hG i o (by simpa using ho);obtain⟨g,h1,h2⟩:=this;rw[List.getElem?_map,hr'] at h2;cases h2;exact h1
 ·unfold left;refine Nat.le_trans List.countP_le_length ?_;rw[List.length_range,H.len];exact Nat.le_refl _
 ·intro q r _ hq;simp[Array.getElem?_replicate] at hq;split at hq<;>simp at hq
 ·intro p hp;simp[Array.getElem?_replicate] at hp;split at hp<;>simp at hp
 ·rw[Xe _ _ _ (fun p _=>by simp[Array.getElem?_replicate];split<;>simp)];exact⟨R.size,R.defers,R.sl,R.hp,R.own,⟨R.fr.os,R.fr.tape,R.fr.output,R.fr.size,R.fr.kept⟩,R.gh⟩
end Go.AW
