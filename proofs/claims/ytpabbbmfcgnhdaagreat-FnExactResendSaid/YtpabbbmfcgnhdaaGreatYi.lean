/- Short names: for rows of the compact code, for values, and for rules of the logic that are often used one after the other. Conditions: each theorem's own. -/
import Derived.Test.YtpabbbmfcgnhdaaGreatYk
set_option linter.unusedVariables false
namespace Go.AW
theorem eR{l:bB}{n:Nat}{v:V}(h:lkO l n=some v):Ev l (.t n) v:=h
def zg3:bC→Nat→Option Blk
 |[],_=>none
 |(k,v)::r,n=>match Nat.beq n k with
  |true=>some v
  |false=>zg3 r n
theorem zeu(n:Nat):∀h:bC,zg3 h n=lkB h n
 |[]=>rfl
 |(k,v)::r=>by
  unfold zg3 lkB;split
  ·rename_i e;rw[if_pos (Nat.eq_of_beq_eq_true e)]
  ·rename_i e;rw[if_neg (Nat.ne_of_beq_eq_false e)];exact zeu n r
theorem bR{h:bC}{n:Nat}{b:Blk}(e:zg3 h n=some b):LB h n b:=(zeu n h).symm.trans e
theorem nR{h:bC}{n:Nat}(e:zg3 h n=none):NB h n:=(zeu n h).symm.trans e
theorem sR{l:bB}{ns:List Nat}:∀{l':bB},(l'.map fun p=>lkO l p.1)=(l'.map fun p=>some p.2)→(l'.map fun p=>p.2.er ns)=(l'.map fun p=>p.2)→SL l ns l'
 |[],_,_=>SL.nil
 |(k,v)::r,h1,h2=>by
  simp only[List.map_cons,List.cons.injEq] at h1 h2;exact SL.cons (eR h1.1) h2.1 VWk.rfl (sR h1.2 h2.2)
theorem blR{h':bC}{ns:List Nat}:∀{h:bC},(h.all fun p=>ns.contains p.1||(h'.map (·.1)).contains p.1)=true→BL h' ns h
 |[],_=>BL.nil
 |(n,b)::r,e=>by
  simp only[List.all_cons,Bool.and_eq_true,Bool.or_eq_true] at e;rcases e.1 with h|h
  ·exact BL.drop h (blR e.2)
  ·exact zjq h (blR e.2)
theorem bkR{h:bC}{ns:List Nat}:∀{h':bC},(h'.all fun p=>!ns.contains p.1)=true→(h'.map fun p=>zg3 h p.1)=(h'.map fun p=>some p.2)→(h'.map fun p=>p.2.er ns)=(h'.map fun p=>p.2)→BK h ns h'
 |[],_,_,_=>BK.nil
 |(n,b)::r,e,h1,h2=>by
  simp only[List.all_cons,Bool.and_eq_true,Bool.not_eq_true'] at e;simp only[List.map_cons,List.cons.injEq] at h1 h2;exact BK.cons e.1 (bR h1.1) h2.1 O (bkR e.2 h1.2 h2.2)
abbrev ro(o:IOp):RO:=⟨⟨none,o⟩,0,[]⟩
abbrev rT(t:Nat)(o:IOp):RO:=⟨⟨some (t,true),o⟩,0,[]⟩
abbrev rN(t:Nat)(o:IOp):RO:=⟨⟨some (t,false),o⟩,0,[]⟩
abbrev rM(d t:Nat):RO:=⟨⟨none,.mov d<|.t t⟩,0,[]⟩
abbrev rF(d m t:Nat):RO:=⟨⟨none,.faddr d m<|.t t⟩,0,[]⟩
abbrev rL(d t:Nat):RO:=⟨⟨none,.load d none<|.t t⟩,0,[]⟩
abbrev c6(n:Int):Opd:= .c (.one<|.d<|.int .i64 n)
abbrev cB(b:Bool):Opd:= .c (.one<|.d<|.bool b)
abbrev oI(n:Int):V:= .one (.d<|.int .i64 n)
abbrev oB(b:Bool):V:= .one (.d<|.bool b)
abbrev dI(n:Int):C:= .d (.int .i64 n)
section
variable {P:Program} {n:Nat} {Q:Exit→St→Prop} {s:St} {l r:bB} {h:bC} {g:Nat→V}
theorem aS{x y:IC}(h:AW P n x (TQ (AW P n y Q) Q) s):AW P n (.seq x y) Q s:=AW.seq h
theorem aR{L:List RO}(h:RG P L s (Q .normal)):AW P n (.reg L) Q s:=zgT h
theorem aV{L:List RO}{y:IC}(h:RG P L s (TQ (AW P n y Q) Q .normal)):AW P n (.seq (.reg L) y) Q s:=AW.seq (zgT h)
theorem xQ{K:St→Prop}(H:K (mk l h g)):RG P [] (mk l h g) (TQ K Q .normal):=zt (TQ.qn H)
theorem kr(k:Nat){ns:List Nat}{v:V}(h1:lkO l k=some v)(h2:v.er ns=v)(H:SL l ns r):SL l ns ((k,v)::r):=SL.cons (eR h1) h2 VWk.rfl H
theorem kR{k:Nat}{ns:List Nat}{v:V}(h1:lkO l k=some v)(h2:v.er ns=v)(H:SL l ns r):SL l ns ((k,v)::r):=SL.cons (eR h1) h2 VWk.rfl H
theorem kv(k:Nat){ns:List Nat}(v:V)(h1:lkO l k=some v)(h2:v.er ns=v)(H:SL l ns r):SL l ns ((k,v)::r):=SL.cons (eR h1) h2 VWk.rfl H
theorem eE{t:Nat}{d:D}(h1:lkO l t=some (.one<|.d d))(hf:d.flat=true):zhY [.tmp t] [d] .ret (mk l h g):=jO (RL.cons (RV.tmp<|eR h1) (VO.flat hf) RL.nil) List.nodup_nil
theorem En:Evs l [] []:=Evs.nil
theorem Ec{x:Opd}{v:V}{xs:List Opd}{vs:List V}(h1:Ev l x v)(h2:Evs l xs vs):Evs l (x::xs) (v::vs):=Evs.cons h1 h2
theorem Vn:VDs h [] []:=VDs.nil
theorem Vc{v:V}{vs:List V}{e:D}{es:List D}(h1:VD h v e)(h2:VDs h vs es):VDs h (v::vs) (e::es):=VDs.cons h1 h2
theorem Vp{y:D}:VD h (.one<|.d y) y:=VD.plain
theorem lm{α β:Type}{f:α→β}{xs:List α}:(xs.map f).length=xs.length:=List.length_map f
theorem fle{a b:Nat}(h:Nat.ble a b=true):a≤b:=Nat.le_of_ble_eq_true h
end
theorem dT{p:Prop}[Decidable p](h:p):decide p=true:=decide_eq_true h
theorem dF{p:Prop}[Decidable p](h:¬p):decide p=false:=decide_eq_false h
theorem cN{a b:Bool}(h:a=b):(!a)= !b:=congrArg Bool.not h
def FI(P:Program)(n:Nat)(ic:IC)(ts:List Qw)(f:FuncId):Prop:=∀{ds rs:List D},ds.length≤n→AW P n ic (zhY ts rs) (zee ds)→Fn P f (lent ds) true rs
theorem fi{P:Program}{f:FuncId}{fn:Func}{n:Nat}{hints h':Jl}{ic:IC}{ts:List Qw}(hcall:callable P f=true)(hf:P.funcs[f]? =some fn)
  (hn:fn.ntmps=n) (hic:(fn.body.bind fun c=>jm P n c hints)=some (ic,h')) (hres:fn.results.toList.mapM (KJ P)=some ts):FI P n ic ts f:=fun hle h=>zhx hcall hf hn hic hres hle h.h
theorem zvq{α β γ δ:Type}{a a':α}{b b':β}{c c':γ}{d d':δ}(h:(a,b,c,d)=(a',b',c',d')):a=a'∧b=b'∧c=c'∧d=d':=by
 injection h with h1 h;injection h with h2 h;injection h with h3 h4;exact⟨h1,h2,h3,h4⟩
theorem fK{P:Program}{f:FuncId}{fn:Func}{n:Nat}{ic:IC}{ts:List Qw}(hf:P.funcs[f]? =some fn)(hints:Jl)(h:(callable P f,fn.ntmps,(fn.body.bind fun c=>jm P n c hints),fn.results.toList.mapM<|KJ P)=(true,n,some (ic,[]),some ts)):FI P n ic ts f:=by
 obtain⟨h1,h2,h3,h4⟩:=zvq h;exact fi h1 hf h2 h3 h4
def FB(P:Program)(n:Nat)(ic:IC)(ts:List Qw)(f:FuncId):Prop:=∀{ds rs:List D},ds.length≤n→AW P n ic (zhS ts rs) (zee ds)→Fn P f (lent ds) false rs
theorem fb{P:Program}{f:FuncId}{fn:Func}{n:Nat}{hints h':Jl}{ic:IC}{ts:List Qw}(hcall:callable P f=true)(hf:P.funcs[f]? =some fn)
  (hn:fn.ntmps=n) (hic:(fn.body.bind fun c=>jm P n c hints)=some (ic,h')) (hres:fn.results.toList.mapM (KJ P)=some ts):FB P n ic ts f:=fun hle h=>zgi hcall hf hn hic hres hle h.h
def FM(P:Program)(n:Nat)(ic:IC)(ts:List Qw)(f:FuncId):Prop:=∀{ars:List Ar} {rs:List D},ars.length≤n→qO ⟨fun _=> .top,fun _=>none,fun _=> .top⟩ ((xH 0 ars).2.map (·.1))→((xH 0 ars).2.map (·.1)).all (fun n=>Nat.ble n 1999999)=true→AW P n ic (zeA ars ts rs) (zeI ars)→Fn P f ars true rs
theorem fm{P:Program}{f:FuncId}{fn:Func}{n:Nat}{hints h':Jl}{ic:IC}{ts:List Qw}(hcall:callable P f=true)(hf:P.funcs[f]? =some fn)
  (hn:fn.ntmps=n) (hic:(fn.body.bind fun c=>jm P n c hints)=some (ic,h')) (hres:fn.results.toList.mapM (KJ P)=some ts):FM P n ic ts f:=fun hle hfr hlt h=>zgj hcall hf hn hic hres hle hfr hlt h.h
theorem mK{P:Program}{f:FuncId}{fn:Func}{n:Nat}{ic:IC}{ts:List Qw}(hf:P.funcs[f]? =some fn)(hints:Jl)(h:(callable P f,fn.ntmps,(fn.body.bind fun c=>jm P n c hints),fn.results.toList.mapM<|KJ P)=(true,n,some (ic,[]),some ts)):FM P n ic ts f:=by
 obtain⟨h1,h2,h3,h4⟩:=zvq h;exact fm h1 hf h2 h3 h4
def sidx(b:ByteArray)(z:Int):Option Int:=if 0≤z then(b[z.toNat]?).map (fun c=>(c.toNat:Int)) else none
section
variable {P:Program} {l:bB} {h:bC} {g:Nat→V} {Q:St→Prop} {rs:List RO} {dep:Nat} {A:List Nat} {d:Nat} {x y z:Opd} {k:IntKind} {a:Int}
end
end Go.AW
