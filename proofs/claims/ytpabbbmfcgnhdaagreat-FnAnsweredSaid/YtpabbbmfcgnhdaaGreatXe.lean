/- Blocks that go over into a named one: stores and appends of what has a name; a call that writes what lies within a named block. Lemmas. Conditions: none. -/
import Derived.Test.YtpabbbmfcgnhdaaGreatXd
set_option linter.unusedVariables false
namespace Go.AW
variable {cx:Cx} {m:M} {s:St} {a:Act} {w:World} {o:Oper} {K:Act→World→Prop} {Q:Exit→Act→World→Prop}
theorem RdL.focus{o:Bool}{h:Hp}:∀{ds:List D} {vs:List Value} {bs:List Nat} {j:Nat} {d:D},RdL o h ds vs bs→ds[j]? =some d→
  ∃u bu p q,vs[j]? =some u∧Rd o h d u bu∧bs=p++bu++q∧∀(h':Hp) (d':D) (bu':List Nat),(∀c∈p++q,h'[c]? =h[c]?)→d'.isCell=true→Rd o h' d' u bu'→RdL o h' (ds.set j d') vs (p++bu'++q)
 |[],_,_,_,_,_,hj=>by simp at hj
 |x::ds,vs,bs,0,d,H,hj=>by
  simp only[List.getElem?_cons_zero,Option.some.injEq] at hj;subst hj;simp only[RdL] at H;obtain⟨v,vs',b1,b2,rfl,rfl,hc,h1,h2⟩:=H;refine⟨v,b1,[],b2,rfl,h1,by simp,fun h' d' bu' hh hc' hd'=> ?_⟩;simp only[List.set_cons_zero,RdL];exact⟨v,vs',bu',b2,rfl,by simp,hc',hd',RdL.congr _ _ _ (fun c hc=>hh c (by simp[hc])) h2⟩
 |x::ds,vs,bs,j+1,d,H,hj=>by
  simp only[List.getElem?_cons_succ] at hj;simp only[RdL] at H;obtain⟨v,vs',b1,b2,rfl,rfl,hc,h1,h2⟩:=H;obtain⟨u,bu,p,q,e1,e2,rfl,e4⟩:=h2.focus hj;refine⟨u,bu,b1++p,q,by simpa using e1,e2,by simp,fun h' d' bu' hh hc' hd'=> ?_⟩;simp only[List.set_cons_succ,RdL];refine⟨v,vs',b1,p++bu'++q,rfl,by simp,hc,Rd.congr _ _ _ (fun c hc=>hh c (by simp[hc])) h1,e4 h' d' bu' (fun c hc=>hh c ?_) hc' hd'⟩;simp only[List.mem_append] at hc ⊢;exact hc.elim (fun h=> .inl (.inr h)) .inr
theorem RdLL.focus{o:Bool}{h:Hp}{sz:Nat}:∀{xs:List (List D)} {vs:List Value} {bs:List Nat} {i j:Nat} {e:List D} {d:D},RdLL o h sz xs vs bs→xs[i]? =some e→e[j]? =some d→
  ∃u bu p q,vs[i * sz+j]? =some u∧Rd o h d u bu∧bs=p++bu++q∧∀(h':Hp) (d':D) (bu':List Nat),(∀c∈p++q,h'[c]? =h[c]?)→d'.isCell=true→Rd o h' d' u bu'→RdLL o h' sz (xs.set i<|e.set j d') vs (p++bu'++q)
 |[],_,_,_,_,_,_,_,hi,_=>by simp at hi
 |x::xs,vs,bs,0,j,e,d,H,hi,hj=>by
  simp only[List.getElem?_cons_zero,Option.some.injEq] at hi;subst hi;simp only[RdLL] at H;obtain⟨b1,b2,rfl,hl,h1,h2⟩:=H;obtain⟨u,bu,p,q,e1,e2,rfl,e4⟩:=h1.focus hj;have hjl:j < sz:=by
   have:=(List.getElem?_eq_some_iff.1 hj).1;omega
  refine⟨u,bu,p,q++b2,?_,e2,by simp,fun h' d' bu' hh hc' hd'=> ?_⟩
  ·rw[List.getElem?_take,if_pos hjl] at e1;simpa using e1
  ·simp only[List.set_cons_zero,RdLL];refine⟨p++bu'++q,b2,by simp,by simpa using hl,e4 h' d' bu' (fun c hc=>hh c ?_) hc' hd',RdLL.congr _ _ _ _ (fun c hc=>hh c (by simp[hc])) h2⟩;simp only[List.mem_append] at hc ⊢;exact hc.elim .inl (fun h=> .inr (.inl h))
 |x::xs,vs,bs,i+1,j,e,d,H,hi,hj=>by
  simp only[List.getElem?_cons_succ] at hi;simp only[RdLL] at H;obtain⟨b1,b2,rfl,hl,h1,h2⟩:=H;obtain⟨u,bu,p,q,e1,e2,rfl,e4⟩:=h2.focus hi hj;refine⟨u,bu,b1++p,q,?_,e2,by simp,fun h' d' bu' hh hc' hd'=> ?_⟩
  ·rw[List.getElem?_drop] at e1;rw[←e1];congr 1;rw[Nat.succ_mul];omega
  ·simp only[List.set_cons_succ,RdLL];refine⟨b1,p++bu'++q,by simp,hl,RdL.congr _ _ _ (fun c hc=>hh c (by simp[hc])) h1,e4 h' d' bu' (fun c hc=>hh c ?_) hc' hd'⟩;simp only[List.mem_append] at hc ⊢;exact hc.elim (fun h=> .inl (.inr h)) .inr
def M.give(m:M)(ns BX:List Nat)(n:Nat):M:=⟨fun k=>if ns.contains k then none else m.inf k,fun c=>if c∈BX then some n else m.own c⟩
theorem zt.give(R:zt cx m s a w){ns BX:List Nat}{n:Nat}(hlt:∀k∈ns,k < 1000000)(hBX:∀c∈BX,Whole cx m s ns c):
  zt cx (m.give ns BX n) (s.er ns) a w∧Ext ns m w.heap (m.give ns BX n) w.heap:=by
 have hnot:∀c k,m.own c=some k→ns.contains k=false→c∉BX:=fun c k hc hk hx=>by
  obtain⟨_,j,hj,_,_,_,e⟩:=hBX c hx;rw[hc] at e;cases e;have:ns.contains k=true:=by rw[List.contains_iff_mem];exact hj
  rw[hk] at this;cases this
 have E:Ext ns m w.heap (m.give ns BX n) w.heap:=by
  refine⟨fun k hk f hf=> ?_,fun b c T f hb ho=>⟨?_,rfl⟩,fun b c T z k f hb hk hf ho hne=>⟨?_,rfl⟩⟩
  ·show(if ns.contains k then none else m.inf k)=some f;rw[hk];simpa using hf
  ·show(if b∈BX then some n else m.own b)=none;rw[if_neg (fun hx=>by obtain⟨_,j,hj,_,_,_,e⟩:=hBX b hx;rw[ho] at e;cases e)];exact ho
  ·show(if b∈BX then some n else m.own b)=some k;simp only[Bool.or_eq_false_iff] at hk;rw[if_neg (hnot b k ho hk.1)];exact ho
 refine⟨⟨R.size,R.defers,fun t=>E.ver (R.sl t),fun k=> ?_,⟨fun b k hb=> ?_,fun b hb hW=> ?_⟩,R.fr,fun t=>E.ver (R.gh t)⟩,E⟩
 ·have HN:=R.hp k;show zT cx _ w.heap k (if ns.contains k then none else(s.hp k).map (Blk.er ns)) (if ns.contains k then none else m.inf k);cases hk:ns.contains k with
  |true=>trivial
  |false=>
   simp only[Bool.false_eq_true,if_false];cases hi:m.inf k with
   |none=>
    rw[hi] at HN;cases hb:s.hp k with
    |none=>trivial
    |some x=>rw[hb] at HN;exact HN.elim
   |some f=>
    rw[hi] at HN;cases hb:s.hp k with
    |none=>rw[hb] at HN;exact HN.elim
    |some x=>
     rw[hb] at HN;have hs:ns.contains (zI k)=false:=by
      rw[Bool.eq_false_iff];intro h;rw[List.contains_iff_mem] at h;have:=hlt _ h;unfold zI at this;omega
     refine Ext.n E (by rw[hk,hs];rfl) (fun b hfb=> ?_) hi HN;unfold zT at HN;simp only[hfb] at HN;refine⟨?_,rfl⟩;show(if b∈BX then some n else m.own b)=some k;rw[if_neg (hnot b k HN.2.1 hk)];exact HN.2.1
 ·have hb:(if b∈BX then some n else m.own b)=some k:=hb;split at hb
  ·rename_i hx;obtain⟨_,j,hj,_,_,_,e⟩:=hBX b hx;exact R.own.1 b j e
  ·exact R.own.1 b k hb
 ·show(if b∈BX then some n else m.own b)=_;rw[if_neg]
  ·exact R.own.2 b hb hW
  ·intro hx;rcases(hBX b hx).1 with h|h
   ·omega
   ·exact hW h
theorem zf7(R:zt cx m s a w){n:Nat}{t:TypeId}{x v:Operand}{x' v':Opd}(ho:o.op= .store t x v)(hd:o.dst=none)(hx:zJ x=some x')(hv:zJ v=some v')(hn:szP cx.P t=some n)
  {k ei j sz:Nat} {xs:List (List D)} {cp:Option Nat} {e:List D} {cs:List C} {ds:List D} {ns:List Nat} (hp:s.ev x'= .one (.ptr<|.nm k ei j)) (hk:s.hp k=some (.data sz xs true cp)) (hxe:xs[ei]? =some e) (hcs:(s.ev v').cells=some cs) (hlen:cs.length=n) (hle:j+n≤e.length)
  (hO:cOs s cs ds ns) (hnd:ns.Nodup) (hkn:k∉ns) (hlt:∀k∈ns,k < 1000000)
  (hK:∀m' a' w',zt cx m' ((s.er ns).blk k<|.data sz (xs.set ei<|splice e j ds) true cp) a' w'→K a' w'):o.wp cx.P a w K Q:=by
 have hpv:=R.opd hx;rw[hp] at hpv;have hu:=R.opd hv;simp only[szP,omi] at hn;obtain⟨i,hi,hin⟩:=hn;have hrel:=hu.cells hcs;have hcl:=hrel.length;have hvl:(a.eval v).cells.toList.length=n:=by rw[hcl];exact hlen
 obtain⟨_,f,b,hf,hb,hav⟩:=hpv;have hN:=R.hp k;rw[hf,hk] at hN;unfold zT at hN;simp only[hb] at hN;obtain⟨g1,g2,cells,T,g4,g5,g6,g6',bs,g8,g9,g10⟩:=hN;obtain⟨BX,hr2,hnx,hBX⟩:=XQ R hnd hrel hO;have hei:=(List.getElem?_eq_some_iff.1 hxe).1;have hfits:=g8.fits;simp only[Array.length_toList] at hfits;obtain⟨hesz,_⟩:=RdLL.at g8 hxe;have hle2:ei * sz+sz≤xs.length * sz:=by rw[←Nat.succ_mul];exact Nat.mul_le_mul_right _ hei
 obtain⟨R1,E1⟩:=R.give (n:=k) hlt hBX;have hkc:ns.contains k=false:=by
  rw[Bool.eq_false_iff];intro h;rw[List.contains_iff_mem] at h;exact hkn h
 have hf1:(m.give ns BX k).inf k=some f:=by
  show(if ns.contains k then none else m.inf k)=some f;rw[hkc];simpa using hf
 have hbX:b∉BX:=fun hx=>by
  obtain⟨_,j',hj',_,_,_,e'⟩:=hBX b hx;rw[g2] at e';cases e';exact hkn hj'
 have hsz:(splice cells.toList (ei * sz+j) (a.eval v).cells.toList).toArray.size=cells.size:=by
  simp only[List.size_toArray];rw[xR (by rw[hvl];simp only[Array.length_toList];omega)];simp
 have hother:∀c,c≠b→(w.setRow b (splice cells.toList (ei * sz+j) (a.eval v).cells.toList).toArray).heap[c]? =w.heap[c]?:=fun c hc=>by
  simp only[World.setRow,Array.getElem?_modify];rw[if_neg (Ne.symm hc)]
 have hbsb:∀c∈bs,c≠b:=fun c hc e'=>by subst e';exact((g9 O).2 c hc).2 hb
 have hbsX:∀c∈bs,c∉BX:=fun c hc hx=>by
  obtain⟨_,j',hj',_,_,_,e'⟩:=hBX c hx;rw[((g9 O).2 c hc).1] at e';cases e';exact hkn hj'
 obtain⟨R2,_⟩:=R1.upd (n:=k) (k:= .data sz (xs.set ei<|splice e j ds) true cp) (cells':=(splice cells.toList (ei * sz+j) (a.eval v).cells.toList).toArray) hf1 hb g4 hsz (by
  refine⟨g6,g6',?_⟩;have g8':RdLL true (w.setRow b (splice cells.toList (ei * sz+j) (a.eval v).cells.toList).toArray).heap sz xs cells.toList bs:=RdLL.congr _ _ _ _ (fun c hc=>hother c (hbsb c hc)) g8;have hr3:RdL true (w.setRow b (splice cells.toList (ei * sz+j) (a.eval v).cells.toList).toArray).heap ds (a.eval v).cells.toList BX:=RdL.congr _ _ _ (fun c hc=>hother c (fun e'=>hbX (e'▸hc))) hr2;have hk2:=hr3.length;obtain⟨p,q,hset,hsub⟩:=RdLL.store g8' hxe (by rw[←hk2,hvl];omega) hr3;refine⟨p++BX++q,hset,fun _=>⟨?_,fun c hc=> ?_⟩,fun h=>by cases h⟩
  ·have h1:=List.Nodup.sublist hsub (g9 O).1;rw[List.nodup_append] at h1;have hp':∀c∈p,c∉BX:=fun c hc=>hbsX c (hsub.subset (by simp[hc]));have hq':∀c∈q,c∉BX:=fun c hc=>hbsX c (hsub.subset (by simp[hc]));rw[List.nodup_append,List.nodup_append];refine⟨⟨h1.1,hnx,fun c hc d hd' e'=>hp' c hc (e'▸hd')⟩,h1.2.1,fun c hc d hd' e'=> ?_⟩;subst e';rcases List.mem_append.1 hc with hc|hc
   ·exact h1.2.2 c hc c hd' rfl
   ·exact hq' c hd' hc
  ·simp only[List.mem_append] at hc;show(if c∈BX then some k else m.own c)=some k∧_;have hold:c∈bs→(if c∈BX then some k else m.own c)=some k∧f.blk≠some c:=fun h=>by
    rw[if_neg (hbsX c h)];exact(g9 O).2 c h
   rcases hc with(hc|hc)|hc
   ·exact hold (hsub.subset (by simp[hc]))
   ·rw[if_pos hc];exact⟨rfl,fun e'=>by rw[hb] at e';cases e';exact hbX hc⟩
   ·exact hold (hsub.subset (by simp[hc])))
 have hst:=run_storeCells_at cx.P b (ei * sz+j) T (a.eval v).cells.toList 0 cells w g4 (by rw[hvl];omega) (zl.cell hrel);simp only[Nat.add_zero] at hst;have hne:((a.eval v).cells.size≠n)=False:=by
  have:(a.eval v).cells.size=n:=by rw[←hvl];simp
  simp[this]
 have hrun:(execOp a.eval o).run cx.P w= .ok .skip (w.setRow b (splice cells.toList (ei * sz+j) (a.eval v).cells.toList).toArray):=by
  rw[g6] at hav;simp only[execOp,ho,hav,Instr.storeAt,Instr.sureAddr,storeVar,Sem.run_bind,Sem.run_pure,Result.andThen_ok,qt hi,hin,hne,if_false,hst];simp[splice]
 exact zef hrun (by rw[hd];exact hK _ _ _ R2)
end Go.AW
