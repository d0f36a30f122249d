/- Short names: for rows of the compact code, for values, and for rules of the logic that are often used one after the other. Conditions: each theorem's own. -/
import Derived.Test.YtlcjjljmjdmobaaYk
set_option linter.unusedVariables false
namespace Go.AW
def lkO:List (Nat×V)→Nat→Option V
 |[],_=>none
 |(k,v)::r,n=>match Nat.beq n k with
  |true=>some v
  |false=>lkO r n
theorem eR{l:List (Nat×V)}{n:Nat}{v:V}(h:lkO l n=some v):Ev l (.t n) v:=by
 show lk l n=v
 induction l with
 |nil=>cases h
 |cons p r ih=>
  obtain⟨k,u⟩:=p
  unfold lkO at h
  unfold lk
  split at h
  ·rename_i e
   have:n=k:=Nat.eq_of_beq_eq_true e
   rw[if_pos this]
   exact Option.some.inj h
  ·rename_i e
   rw[if_neg (Nat.ne_of_beq_eq_false e)]
   exact ih h
abbrev ro(o:IOp):RO:=⟨⟨none,o⟩,0,[]⟩
abbrev rT(t:Nat)(o:IOp):RO:=⟨⟨some (t,true),o⟩,0,[]⟩
abbrev rN(t:Nat)(o:IOp):RO:=⟨⟨some (t,false),o⟩,0,[]⟩
abbrev rM(d t:Nat):RO:=⟨⟨none,.mov d (.t t)⟩,0,[]⟩
abbrev rF(d m t:Nat):RO:=⟨⟨none,.faddr d m (.t t)⟩,0,[]⟩
abbrev rL(d t:Nat):RO:=⟨⟨none,.load d none (.t t)⟩,0,[]⟩
abbrev c6(n:Int):Opd:= .c (.one (.d (.int .i64 n)))
abbrev cB(b:Bool):Opd:= .c (.one (.d (.bool b)))
abbrev oI(n:Int):V:= .one (.d (.int .i64 n))
abbrev oB(b:Bool):V:= .one (.d (.bool b))
abbrev dI(n:Int):C:= .d (.int .i64 n)
section
variable {P:Program} {n:Nat} {Q:Exit→St→Prop} {s:St} {l r:List (Nat×V)} {h:List (Nat×Blk)} {g:Nat→V}
theorem aS{x y:IC}(h:AW P n x (TQ (AW P n y Q) Q) s):AW P n (.seq x y) Q s:=AW.seq h
theorem aR{L:List RO}(h:RG P L s (Q .normal)):AW P n (.reg L) Q s:=AW.regs h
theorem aV{L:List RO}{y:IC}(h:RG P L s (TQ (AW P n y Q) Q .normal)):AW P n (.seq (.reg L) y) Q s:=AW.seq (AW.regs h)
theorem xQ{K:St→Prop}(H:K (mk l h g)):RG P [] (mk l h g) (TQ K Q .normal):=xNil (TQ.qn H)
theorem kr(k:Nat){ns:List Nat}{v:V}(h1:lkO l k=some v)(h2:v.er ns=v)(H:SL l ns r):SL l ns ((k,v)::r):=SL.cons (eR h1) h2 VWk.rfl H
theorem kR{k:Nat}{ns:List Nat}{v:V}(h1:lkO l k=some v)(h2:v.er ns=v)(H:SL l ns r):SL l ns ((k,v)::r):=SL.cons (eR h1) h2 VWk.rfl H
theorem kv(k:Nat){ns:List Nat}(v:V)(h1:lkO l k=some v)(h2:v.er ns=v)(H:SL l ns r):SL l ns ((k,v)::r):=SL.cons (eR h1) h2 VWk.rfl H
theorem eE{t:Nat}{d:D}(h1:lkO l t=some (.one (.d d)))(hf:d.flat=true):Ends [.tmp t] [d] .ret (mk l h g):=endsR (RL.cons (RV.tmp (eR h1)) (VO.flat hf) RL.nil) List.nodup_nil
theorem fle{a b:Nat}(h:Nat.ble a b=true):a≤b:=Nat.le_of_ble_eq_true h
end
theorem dT{p:Prop}[Decidable p](h:p):decide p=true:=decide_eq_true h
theorem dF{p:Prop}[Decidable p](h:¬p):decide p=false:=decide_eq_false h
theorem cN{a b:Bool}(h:a=b):(!a)= !b:=congrArg Bool.not h
def FI(P:Program)(n:Nat)(ic:IC)(ts:List RVar)(f:FuncId):Prop:=∀{ds rs:List D},ds.length≤n→AW P n ic (Ends ts rs) (init ds)→Fn P f (lent ds) true rs
theorem fi{P:Program}{f:FuncId}{fn:Func}{n:Nat}{hints h':Hints}{ic:IC}{ts:List RVar}(hcall:callable P f=true)(hf:P.funcs[f]? =some fn)
  (hn:fn.ntmps=n) (hic:(fn.body.bind fun c=>toIC P n c hints)=some (ic,h')) (hres:fn.results.toList.mapM (toRV P)=some ts):FI P n ic ts f:=fun hle h=>Fn.intro' hcall hf hn hic hres hle h.h
def FM(P:Program)(n:Nat)(ic:IC)(ts:List RVar)(f:FuncId):Prop:=∀{ars:List Ar} {rs:List D},ars.length≤n→freshL ⟨fun _=> .top,fun _=>none,fun _=> .top⟩ ((argB 0 ars).2.map (·.1))→((argB 0 ars).2.map (·.1)).all (fun n=>Nat.ble n 1999999)=true→AW P n ic (EndsM ars ts rs) (initM ars)→Fn P f ars true rs
theorem fm{P:Program}{f:FuncId}{fn:Func}{n:Nat}{hints h':Hints}{ic:IC}{ts:List RVar}(hcall:callable P f=true)(hf:P.funcs[f]? =some fn)
  (hn:fn.ntmps=n) (hic:(fn.body.bind fun c=>toIC P n c hints)=some (ic,h')) (hres:fn.results.toList.mapM (toRV P)=some ts):FM P n ic ts f:=fun hle hfr hlt h=>Fn.introM' hcall hf hn hic hres hle hfr hlt h.h
def sidx(b:ByteArray)(z:Int):Option Int:=if 0≤z then(b[z.toNat]?).map (fun c=>(c.toNat:Int)) else none
section
variable {P:Program} {l:List (Nat×V)} {h:List (Nat×Blk)} {g:Nat→V} {Q:St→Prop} {rs:List RO} {dep:Nat} {A:List Nat} {d:Nat} {x y z:Opd} {k:IntKind} {a:Int}
end
end Go.AW
