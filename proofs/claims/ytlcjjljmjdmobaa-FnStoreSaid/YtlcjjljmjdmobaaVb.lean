/- Two more kinds of regions without an order: loads that need not wait for an append, and regions whose end is in order. Lemmas. Conditions: none. -/
import Derived.Test.YtlcjjljmjdmobaaV
set_option linter.unusedVariables false
namespace Go.AW
def RO.light(r:RO):Bool:=r.A.contains 2000003
def IOp.isLoad:IOp→Bool
 | .load ..=>true
 |_=>false
def C.cl(E:List Nat)(c:C):Bool:=(match c with| .any=>false|_=>true)&&!(c.has E)
def V.cl(E:List Nat):V→Bool
 | .one c=>c.cl E
 | .agg cs=>cs.all (C.cl E)
 |_=>false
def Blk.cl(E:List Nat):Blk→Bool
 | .vars _ cs=>cs.all (C.cl E)
 | .data ..=>true
def voidB(E:List Nat):Option Blk→Option Blk
 |some b=>if b.cl E then some b else none
 |none=>none
def St.void(E:List Nat)(s:St):St:={sl:=s.sl,hp:=fun n=>if E.contains n then none else voidB E (s.hp n),gh:=s.gh}
theorem St.erOpt_er(s:St)(ns:List Nat):s.erOpt ns=s.er ns:=by
 cases ns with
 |nil=>exact(St.er_nil s).symm
 |cons a l=>rfl
theorem C.er_cl{ns E:List Nat}{c:C}(h:(c.er ns).cl E=true):c.er ns=c:=by
 unfold C.er at h ⊢
 split
 ·rename_i e;rw[if_pos e] at h;simp[C.cl] at h
 ·rfl
theorem map_er_cl{ns E:List Nat}:∀{cs:List C},(cs.map (C.er ns)).all (C.cl E)=true→cs.map (C.er ns)=cs
 |[],_=>rfl
 |c::cs,h=>by
  simp only[List.map_cons,List.all_cons,Bool.and_eq_true] at h ⊢
  rw[C.er_cl h.1,map_er_cl h.2]
theorem V.er_cl{ns E:List Nat}{v:V}(h:(v.er ns).cl E=true):v.er ns=v:=by
 cases v with
 |top=>rfl
 |one c=>show V.one (c.er ns)=_;rw[C.er_cl h]
 |agg cs=>show V.agg (cs.map (C.er ns))=_;rw[map_er_cl h]
 |tup vs=>cases h
theorem Blk.er_cl{ns E:List Nat}{b:Blk}(h:(b.er ns).cl E=true):b.er ns=b:=by
 cases b with
 |data=>rfl
 |vars sz cs=>show Blk.vars sz (cs.map (C.er ns))=_;rw[map_er_cl h]
def Out.names(o:Out):List Nat:=o.er++o.hp.map (·.1)
def vw(lt:Bool)(E:List Nat)(r:RO)(s:St):St:=if lt&&r.light then s.void E else s
def Ok1(lt:Bool)(E:List Nat)(r:RO)(s:St):Prop:=lt=true→r.light=true→∀t∈r.g.reads,(s.sl t).cl E=true
def Ok2(lt:Bool)(E:List Nat)(r:RO)(o:Out):Prop:=lt=true→(r.g.o.isApp=true→∀n∈o.names,E.contains n=true)∧(r.light=true→∀p,o.sl=some p→p.2.cl E=true)
def regE(P:Program)(lt:Bool)(E:List Nat):List RO→St→(St→Prop)→Prop
 |[],s,Q=>Q s
 |r::rs,s,Q=>Ok1 lt E r s∧stepA P ((vw lt E r s).hide r.A) r.g fun out=>Ok2 lt E r out∧regE P lt E rs (s.app out) Q
def RunsE(P:Program)(lt:Bool)(E:List Nat):List RO→St→List Out→St→Prop
 |[],s,[],s'=>s'=s
 |r::rs,s,o::os,s'=>(Ok1 lt E r s∧stepA P ((vw lt E r s).hide r.A) r.g (·=o)∧Ok2 lt E r o∧Shape r.g.o o)∧RunsE P lt E rs (s.app o) os s'
 |_,_,_,_=>False
theorem RunsE.len{P:Program}{lt:Bool}{E:List Nat}:∀{L:List RO} {s s':St} {os:List Out},RunsE P lt E L s os s'→os.length=L.length
 |[],_,_,[],_=>rfl
 |_::_,_,_,_::_,h=>by simp[h.2.len]
 |[],_,_,_::_,h=>h.elim
 |_::_,_,_,[],h=>h.elim
theorem RunsE.all{P:Program}{lt:Bool}{E:List Nat}:∀{L:List RO} {s s':St} {os:List Out},RunsE P lt E L s os s'→∀k,foldD (fun _=>true) k os s=s'
 |[],_,_,[],h,_=>h.symm
 |_::_,_,_,_::_,h,k=>by simp only[foldD,if_true];exact h.2.all (k+1)
 |[],_,_,_::_,h,_=>h.elim
 |_::_,_,_,[],h,_=>h.elim
theorem RunsE.at{P:Program}{lt:Bool}{E:List Nat}:∀{L:List RO} {s s':St} {os:List Out},RunsE P lt E L s os s'→∀{i:Nat} {r:RO},L[i]? =some r→
  ∃o,os[i]? =some o∧(Ok1 lt E r (foldD (fun p=>decide (p < i)) 0 os s)∧stepA P ((vw lt E r (foldD (fun p=>decide (p < i)) 0 os s)).hide r.A) r.g (·=o)∧Ok2 lt E r o∧Shape r.g.o o)
 |[],_,_,[],_,i,r,hr=>by simp at hr
 |r0::rs,s,s',o::os,h,0,r,hr=>by
  simp only[List.getElem?_cons_zero,Option.some.injEq] at hr
  subst hr
  refine⟨o,rfl,?_⟩
  rw[foldD_none _ _ _ (fun p _=>by simp)]
  exact h.1
 |r0::rs,s,s',o::os,h,i+1,r,hr=>by
  simp only[List.getElem?_cons_succ] at hr
  obtain⟨o',h1,h2⟩:=h.2.at hr
  refine⟨o',by simpa using h1,?_⟩
  simp only[foldD,Nat.zero_lt_succ,decide_true,if_true]
  rw[foldD_shift]
  simpa using h2
 |[],_,_,_::_,h,_,_,_=>h.elim
 |_::_,_,_,[],h,_,_,_=>h.elim
def lightOk(x y:RO):Bool:=x.g.o.isApp&&y.light&&y.g.g.isNone&&y.g.o.isLoad&&
 (match x.g.o.dst with|some d=>!y.g.reads.contains d&&y.g.o.dst != some d&&y.A.contains d|none=>true)&&
 (match y.g.o.dst with|some d=>!x.g.reads.contains d|none=>true)
def pairsE(lt:Bool)(L:List RO):Bool:=L.zipIdx.all fun(y,q)=>(L.take q).zipIdx.all fun(x,p)=>y.dep.testBit p||(compat x.g y.g&&hidesOk y x.g&&hidesOk x y.g)||(lt&&lightOk x y)
def drawE(ops:List Oper)(L:List RO)(k:Nat)(lt:Bool):Bool:=
 ops.length == L.length&&L.all selfOk&&(L.all fun r=>!r.light||(r.g.g.isNone&&r.g.o.isLoad))&&pairsE lt (L.take k)&&((ops.zip L).zipIdx.all fun((o,r),q)=>r.dep == depOf L o&&decide (r.dep < 2 ^ q)&&(Nat.blt q k||r.dep == 2 ^ q - 1))
structure DrawE(ops:Array Oper)(L:List RO)(k:Nat)(lt:Bool):Prop where
 len:ops.size=L.length
 self:∀r∈L,selfOk r=true
 lite:∀r∈L,r.light=true→r.g.g=none∧r.g.o.isLoad=true
 pair:∀(p q:Nat) (x y:RO),p < q→(L.take k)[p]? =some x→(L.take k)[q]? =some y→y.dep.testBit p=true∨(compat x.g y.g=true∧hidesOk y x.g=true∧hidesOk x y.g=true)∨(lt=true∧lightOk x y=true)
 dep:∀(q:Nat) (o:Oper) (r:RO),ops[q]? =some o→L[q]? =some r→(∀p,r.dep.testBit p=true↔∃e∈o.after,Region.binds .any e=true∧(e.on=p∨∃r,L[e.on]? =some r∧r.dep.testBit p=true))∧∀p,r.dep.testBit p=true→p < q
 tail:∀(q:Nat) (r:RO),k≤q→L[q]? =some r→∀p,p < q→r.dep.testBit p=true
structure Less(E:List Nat)(X Y:Nat→Prop)(s s':St):Prop where
 sl:∀t,X t→(s.sl t).cl E=true→s'.sl t=s.sl t
 hp:∀n,Y n→E.contains n=false→∀b,s.hp n=some b→b.cl E=true→s'.hp n=some b
theorem Less.app{E:List Nat}{X Y:Nat→Prop}{s s':St}(h:Less E X Y s s')(o:Out):Less E X Y (s.app o) (s'.app o) where
 sl t ht hc:=by
  rw[app_sl] at hc ⊢
  rw[app_sl]
  simp only[St.erOpt_er] at hc ⊢
  have key:((s.er o.er).sl t).cl E=true→(s'.er o.er).sl t=(s.er o.er).sl t:=fun hc=>by
   have hc:((s.sl t).er o.er).cl E=true:=hc
   show(s'.sl t).er o.er=(s.sl t).er o.er
   rw[h.sl t ht (by rw[V.er_cl hc] at hc;exact hc)]
  cases ho:o.sl with
  |none=>rw[ho] at hc;exact key hc
  |some p=>
   rw[ho] at hc
   simp only at hc ⊢
   split
   ·rfl
   ·rename_i e;rw[if_neg e] at hc;exact key hc
 hp n hn hE b hb hc:=by
  rw[app_hp] at hb ⊢
  cases hl:lookB o.hp n with
  |some x=>rw[hl] at hb;simpa using hb
  |none=>
   rw[hl] at hb
   simp only[Option.none_or,St.erOpt_er] at hb ⊢
   have hb:(if o.er.contains n then none else(s.hp n).map (Blk.er o.er))=some b:=hb
   show(if o.er.contains n then none else(s'.hp n).map (Blk.er o.er))=some b
   split at hb
   ·cases hb
   ·rename_i e
    rw[if_neg e]
    rw[omi] at hb ⊢
    obtain⟨b0,h0,e3⟩:=hb
    have e2:b0.er o.er=b0:=Blk.er_cl (E:=E) (by rw[e3];exact hc)
    rw[e2] at e3
    subst e3
    exact⟨_,h.hp n hn hE _ h0 hc,e2⟩
variable {cx:Cx} {Q:Exit→Act→World→Prop} {ops:Array Oper}
structure TailE(ops:Array Oper)(L:List RO)(k:Nat):Prop where
 len:ops.size=L.length
 dep:∀(q:Nat) (o:Oper) (r:RO),ops[q]? =some o→L[q]? =some r→(∀p,r.dep.testBit p=true↔∃e∈o.after,Region.binds .any e=true∧(e.on=p∨∃r,L[e.on]? =some r∧r.dep.testBit p=true))∧∀p,r.dep.testBit p=true→p < q
 tail:∀(q:Nat) (r:RO),k≤q→L[q]? =some r→∀p,p < q→r.dep.testBit p=true
end Go.AW
