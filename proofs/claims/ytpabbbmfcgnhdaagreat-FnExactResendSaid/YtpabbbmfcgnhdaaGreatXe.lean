/- Blocks that go over into a named one: stores and appends of what has a name; a call that writes what lies within a named block. Lemmas. Conditions: none. -/
import Derived.Test.YtpabbbmfcgnhdaaGreatXd
set_option linter.unusedVariables false
namespace Go.AW
variable {cx:Cx} {m:M} {s:St} {a:Act} {w:World} {o:Oper} {K:Act→World→Prop} {Q:Exit→Act→World→Prop}
theorem RdL.focus{o:Bool}{h:Hp}:∀{ds:List D} {vs:List Value} {bs:List Nat} {j:Nat} {d:D},RdL o h ds vs bs→ds[j]? =some d→
  ∃u bu p q,vs[j]? =some u∧Rd o h d u bu∧bs=p++bu++q∧∀(h':Hp) (d':D) (bu':List Nat),(∀c∈p++q,h'[c]? =h[c]?)→d'.isCell=true→Rd o h' d' u bu'→RdL o h' (ds.set j d') vs (p++bu'++q)
 |[],_,_,_,_,_,hj=>by simp at hj
 |x::ds,vs,bs,0,d,H,hj=>by
  simp only[List.getElem?_cons_zero,Option.some.injEq] at hj;subst hj;simp only[RdL] at H;obtain⟨v,vs',b1,b2,rfl,rfl,hc,h1,h2⟩:=H;refine⟨v,b1,[],b2,rfl,h1,by simp,fun h' d' bu' hh hc' hd'=> ?_⟩;simp only[List.set_cons_zero,RdL];exact⟨v,vs',bu',b2,rfl,by simp,hc',hd',RdL.congr _ _ _ (fun c hc=>hh c (by simp[hc])) h2⟩
 |x::ds,vs,bs,j+1,d,H,hj=>by
  simp only[List.getElem?_cons_succ] at hj;simp only[RdL] at H;obtain⟨v,vs',b1,b2,rfl,rfl,hc,h1,h2⟩:=H;obtain⟨u,bu,p,q,e1,e2,rfl,e4⟩:=h2.focus hj;refine⟨u,bu,b1++p,q,by simpa using e1,e2,by simp,fun h' d' bu' hh hc' hd'=> ?_⟩;simp only[List.set_cons_succ,RdL];refine⟨v,vs',b1,p++bu'++q,rfl,by simp,hc,Rd.congr _ _ _ (fun c hc=>hh c (by simp[hc])) h1,e4 h' d' bu' (fun c hc=>hh c ?_) hc' hd'⟩;simp only[List.mem_append] at hc ⊢;exact hc.elim (fun h=> .inl (.inr h)) .inr
theorem RdLL.focus{o:Bool}{h:Hp}{sz:Nat}:∀{xs:List (List D)} {vs:List Value} {bs:List Nat} {i j:Nat} {e:List D} {d:D},RdLL o h sz xs vs bs→xs[i]? =some e→e[j]? =some d→
  ∃u bu p q,vs[i * sz+j]? =some u∧Rd o h d u bu∧bs=p++bu++q∧∀(h':Hp) (d':D) (bu':List Nat),(∀c∈p++q,h'[c]? =h[c]?)→d'.isCell=true→Rd o h' d' u bu'→RdLL o h' sz (xs.set i<|e.set j d') vs (p++bu'++q)
 |[],_,_,_,_,_,_,_,hi,_=>by simp at hi
 |x::xs,vs,bs,0,j,e,d,H,hi,hj=>by
  simp only[List.getElem?_cons_zero,Option.some.injEq] at hi;subst hi;simp only[RdLL] at H;obtain⟨b1,b2,rfl,hl,h1,h2⟩:=H;obtain⟨u,bu,p,q,e1,e2,rfl,e4⟩:=h1.focus hj;have hjl:j < sz:=by
   have:=(List.getElem?_eq_some_iff.1 hj).1;omega
  refine⟨u,bu,p,q++b2,?_,e2,by simp,fun h' d' bu' hh hc' hd'=> ?_⟩
  ·rw[List.getElem?_take,if_pos hjl] at e1;simpa using e1
  ·simp only[List.set_cons_zero,RdLL];refine⟨p++bu'++q,b2,by simp,by simpa using hl,e4 h' d' bu' (fun c hc=>hh c ?_) hc' hd',RdLL.congr _ _ _ _ (fun c hc=>hh c (by simp[hc])) h2⟩;simp only[List.mem_append] at hc ⊢;exact hc.elim .inl (fun h=> .inr (.inl h))
 |x::xs,vs,bs,i+1,j,e,d,H,hi,hj=>by
  simp only[List.getElem?_cons_succ] at hi;simp only[RdLL] at H;obtain⟨b1,b2,rfl,hl,h1,h2⟩:=H;obtain⟨u,bu,p,q,e1,e2,rfl,e4⟩:=h2.focus hi hj;refine⟨u,bu,b1++p,q,?_,e2,by simp,fun h' d' bu' hh hc' hd'=> ?_⟩
  ·rw[List.getElem?_drop] at e1;rw[←e1];congr 1;rw[Nat.succ_mul];omega
  ·simp only[List.set_cons_succ,RdLL];refine⟨b1,p++bu'++q,by simp,hl,RdL.congr _ _ _ (fun c hc=>hh c (by simp[hc])) h1,e4 h' d' bu' (fun c hc=>hh c ?_) hc' hd'⟩;simp only[List.mem_append] at hc ⊢;exact hc.elim (fun h=> .inl (.inr h)) .inr
def M.give(m:M)(ns BX:List Nat)(n:Nat):M:=⟨fun k=>if ns.contains k then none else m.inf k,fun c=>if c∈BX then some n else m.own c⟩
theorem zH.give(R:zH cx m s a w){ns BX:List Nat}{n:Nat}(hlt:∀k∈ns,k < 1000000)(hBX:∀c∈BX,Whole cx m s ns c):
  zH cx (m.give ns BX n) (s.er ns) a w∧Ext ns m w.heap (m.give ns BX n) w.heap:=by
 have hnot:∀c k,m.own c=some k→ns.contains k=false→c∉BX:=fun c k hc hk hx=>by
  obtain⟨_,j,hj,_,_,_,e⟩:=hBX c hx;rw[hc] at e;cases e;have:ns.contains k=true:=by rw[List.contains_iff_mem];exact hj
  rw[hk] at this;cases this
 have E:Ext ns m w.heap (m.give ns BX n) w.heap:=by
  refine⟨fun k hk f hf=> ?_,fun b c T f hb ho=>⟨?_,rfl⟩,fun b c T z k f hb hk hf ho hne=>⟨?_,rfl⟩⟩
  ·show(if ns.contains k then none else m.inf k)=some f;rw[hk];simpa using hf
  ·show(if b∈BX then some n else m.own b)=none;rw[if_neg (fun hx=>by obtain⟨_,j,hj,_,_,_,e⟩:=hBX b hx;rw[ho] at e;cases e)];exact ho
  ·show(if b∈BX then some n else m.own b)=some k;simp only[Bool.or_eq_false_iff] at hk;rw[if_neg (hnot b k ho hk.1)];exact ho
 refine⟨⟨R.size,R.defers,fun t=>E.ver (R.sl t),fun k=> ?_,⟨fun b k hb=> ?_,fun b hb hW=> ?_⟩,R.fr,fun t=>E.ver (R.gh t)⟩,E⟩
 ·have HN:=R.hp k;show zY cx _ w.heap k (if ns.contains k then none else(s.hp k).map (Blk.er ns)) (if ns.contains k then none else m.inf k);cases hk:ns.contains k with
  |true=>trivial
  |false=>
   simp only[Bool.false_eq_true,if_false];cases hi:m.inf k with
   |none=>
    rw[hi] at HN;cases hb:s.hp k with
    |none=>trivial
    |some x=>rw[hb] at HN;exact HN.elim
   |some f=>
    rw[hi] at HN;cases hb:s.hp k with
    |none=>rw[hb] at HN;exact HN.elim
    |some x=>
     rw[hb] at HN;have hs:ns.contains (zQ k)=false:=by
      rw[Bool.eq_false_iff];intro h;rw[List.contains_iff_mem] at h;have:=hlt _ h;unfold zQ at this;omega
     refine Ext.n E (by rw[hk,hs];rfl) (fun b hfb=> ?_) hi HN;unfold zY at HN;simp only[hfb] at HN;refine⟨?_,rfl⟩;show(if b∈BX then some n else m.own b)=some k;rw[if_neg (hnot b k HN.2.1 hk)];exact HN.2.1
 ·have hb:(if b∈BX then some n else m.own b)=some k:=hb;split at hb
  ·rename_i hx;obtain⟨_,j,hj,_,_,_,e⟩:=hBX b hx;exact R.own.1 b j e
  ·exact R.own.1 b k hb
 ·show(if b∈BX then some n else m.own b)=_;rw[if_neg]
  ·exact R.own.2 b hb hW
  ·intro hx;rcases(hBX b hx).1 with h|h
   ·omega
   ·exact hW h
theorem zes(R:zH cx m s a w){n:Nat}{t:TypeId}{x v:Operand}{x' v':Opd}(ho:o.op= .store t x v)(hd:o.dst=none)(hx:zR x=some x')(hv:zR v=some v')(hn:szP cx.P t=some n)
  {k ei j sz:Nat} {xs:List (List D)} {cp:Option Nat} {e:List D} {cs:List C} {ds:List D} {ns:List Nat} (hp:s.ev x'= .one (.ptr<|.nm k ei j)) (hk:s.hp k=some (.data sz xs true cp)) (hxe:xs[ei]? =some e) (hcs:(s.ev v').cells=some cs) (hlen:cs.length=n) (hle:j+n≤e.length)
  (hO:cOs s cs ds ns) (hnd:ns.Nodup) (hkn:k∉ns) (hlt:∀k∈ns,k < 1000000)
  (hK:∀m' a' w',zH cx m' ((s.er ns).blk k<|.data sz (xs.set ei<|splice e j ds) true cp) a' w'→K a' w'):o.wp cx.P a w K Q:=by
 have hpv:=R.opd hx;rw[hp] at hpv;have hu:=R.opd hv;simp only[szP,omi] at hn;obtain⟨i,hi,hin⟩:=hn;have hrel:=hu.cells hcs;have hcl:=hrel.length;have hvl:(a.eval v).cells.toList.length=n:=by rw[hcl];exact hlen
 obtain⟨_,f,b,hf,hb,hav⟩:=hpv;have hN:=R.hp k;rw[hf,hk] at hN;unfold zY at hN;simp only[hb] at hN;obtain⟨g1,g2,cells,T,g4,g5,g6,g6',bs,g8,g9,g10⟩:=hN;obtain⟨BX,hr2,hnx,hBX⟩:=kF R hnd hrel hO;have hei:=(List.getElem?_eq_some_iff.1 hxe).1;have hfits:=g8.fits;simp only[Array.length_toList] at hfits;obtain⟨hesz,_⟩:=RdLL.at g8 hxe;have hle2:ei * sz+sz≤xs.length * sz:=by rw[←Nat.succ_mul];exact Nat.mul_le_mul_right _ hei
 obtain⟨R1,E1⟩:=R.give (n:=k) hlt hBX;have hkc:ns.contains k=false:=by
  rw[Bool.eq_false_iff];intro h;rw[List.contains_iff_mem] at h;exact hkn h
 have hf1:(m.give ns BX k).inf k=some f:=by
  show(if ns.contains k then none else m.inf k)=some f;rw[hkc];simpa using hf
 have hbX:b∉BX:=fun hx=>by
  obtain⟨_,j',hj',_,_,_,e'⟩:=hBX b hx;rw[g2] at e';cases e';exact hkn hj'
 have hsz:(splice cells.toList (ei * sz+j) (a.eval v).cells.toList).toArray.size=cells.size:=by
  simp only[List.size_toArray];rw[YZ (by rw[hvl];simp only[Array.length_toList];omega)];simp
 have hother:∀c,c≠b→(w.setRow b (splice cells.toList (ei * sz+j) (a.eval v).cells.toList).toArray).heap[c]? =w.heap[c]?:=fun c hc=>by
  simp only[World.setRow,Array.getElem?_modify];rw[if_neg (Ne.symm hc)]
 have hbsb:∀c∈bs,c≠b:=fun c hc e'=>by subst e';exact((g9 O).2 c hc).2 hb
 have hbsX:∀c∈bs,c∉BX:=fun c hc hx=>by
  obtain⟨_,j',hj',_,_,_,e'⟩:=hBX c hx;rw[((g9 O).2 c hc).1] at e';cases e';exact hkn hj'
 obtain⟨R2,_⟩:=R1.upd (n:=k) (k:= .data sz (xs.set ei<|splice e j ds) true cp) (cells':=(splice cells.toList (ei * sz+j) (a.eval v).cells.toList).toArray) hf1 hb g4 hsz (by
  refine⟨g6,g6',?_⟩;have g8':RdLL true (w.setRow b (splice cells.toList (ei * sz+j) (a.eval v).cells.toList).toArray).heap sz xs cells.toList bs:=RdLL.congr _ _ _ _ (fun c hc=>hother c (hbsb c hc)) g8;have hr3:RdL true (w.setRow b (splice cells.toList (ei * sz+j) (a.eval v).cells.toList).toArray).heap ds (a.eval v).cells.toList BX:=RdL.congr _ _ _ (fun c hc=>hother c (fun e'=>hbX (e'▸hc))) hr2;have hk2:=hr3.length;obtain⟨p,q,hset,hsub⟩:=RdLL.store g8' hxe (by rw[←hk2,hvl];omega) hr3;refine⟨p++BX++q,hset,fun _=>⟨?_,fun c hc=> ?_⟩,fun h=>by cases h⟩
  ·have h1:=List.Nodup.sublist hsub (g9 O).1;rw[List.nodup_append] at h1;have hp':∀c∈p,c∉BX:=fun c hc=>hbsX c (hsub.subset (by simp[hc]));have hq':∀c∈q,c∉BX:=fun c hc=>hbsX c (hsub.subset (by simp[hc]));rw[List.nodup_append,List.nodup_append];refine⟨⟨h1.1,hnx,fun c hc d hd' e'=>hp' c hc (e'▸hd')⟩,h1.2.1,fun c hc d hd' e'=> ?_⟩;subst e';rcases List.mem_append.1 hc with hc|hc
   ·exact h1.2.2 c hc c hd' rfl
   ·exact hq' c hd' hc
  ·simp only[List.mem_append] at hc;show(if c∈BX then some k else m.own c)=some k∧_;have hold:c∈bs→(if c∈BX then some k else m.own c)=some k∧f.blk≠some c:=fun h=>by
    rw[if_neg (hbsX c h)];exact(g9 O).2 c h
   rcases hc with(hc|hc)|hc
   ·exact hold (hsub.subset (by simp[hc]))
   ·rw[if_pos hc];exact⟨rfl,fun e'=>by rw[hb] at e';cases e';exact hbX hc⟩
   ·exact hold (hsub.subset (by simp[hc])))
 have hst:=run_storeCells_at cx.P b (ei * sz+j) T (a.eval v).cells.toList 0 cells w g4 (by rw[hvl];omega) (zw.cell hrel);simp only[Nat.add_zero] at hst;have hne:((a.eval v).cells.size≠n)=False:=by
  have:(a.eval v).cells.size=n:=by rw[←hvl];simp
  simp[this]
 have hrun:(execOp a.eval o).run cx.P w= .ok .skip (w.setRow b (splice cells.toList (ei * sz+j) (a.eval v).cells.toList).toArray):=by
  rw[g6] at hav;simp only[execOp,ho,hav,Instr.storeAt,Instr.sureAddr,storeVar,Sem.run_bind,Sem.run_pure,Result.andThen_ok,qB hi,hin,hne,if_false,hst];simp[splice]
 exact zbF hrun (by rw[hd];exact hK _ _ _ R2)
theorem zeT{P:Program}{n:Nat}{o:Oper}{c:Call}{d:Nat}{ag:Option Nat}{x':Opd}(hc:yq P n o c=some (.load d ag x')):False:=by
 unfold yq at hc;split at hc
 case h_8 f0 hf0=>
  simp only[obi,omi] at hc;obtain⟨d',hd,f',hf,xs',hxs,hc⟩:=hc;cases hc
 case h_9=>cases hc
 case h_5=>
  simp only[obi] at hc;obtain⟨_,_,_,_,_,_,_,_,_,_,_,_,hc⟩:=hc;split at hc
  ·simp only[omi] at hc;obtain⟨_,_,hc⟩:=hc;cases hc
  ·cases hc
 case h_2=>
  rw[obi] at hc;obtain⟨_,_,hc⟩:=hc;rw[obi] at hc;obtain⟨_,_,hc⟩:=hc;split at hc;rotate_left
  ·simp only[obi] at hc;obtain⟨_,_,_,_,_,_,_,_,_,_,_,_,hc⟩:=hc;split at hc
   ·simp only[obi,omi] at hc;obtain⟨_,_,_,_,hc⟩:=hc;cases hc
   ·cases hc
  simp only[obi] at hc;obtain⟨_,_,_,_,_,_,_,_,hc⟩:=hc;split at hc;rotate_left
  ·cases hc
  simp only[obi,omi] at hc;obtain⟨_,_,_,_,hc⟩:=hc;cases hc
 all_goals
  simp only[obi,omi] at hc;obtain⟨_,_,hc⟩:=hc
  repeat' (obtain⟨_,_,hc⟩:=hc)
  first|(cases hc;done)|skip
theorem zg2{P:Program}{n:Nat}{o:Oper}{d:Nat}{ag:Option Nat}{x':Opd}(h1:Yh P n o=some (.load d ag x')):∃t x,o.op= .load t x∧o.dst=some d∧d < n∧zR x=some x'∧zbP P t=some ag:=by
 unfold Yh at h1;split at h1
 case h_8 t x hop=>
  simp only[obi,omi] at h1;obtain⟨d',hd,ag',hag,x'',hx,h1⟩:=h1;cases h1;exact⟨t,x,hop,(zm hd).1,(zm hd).2,hx,hag⟩
 case h_24 c hop=>exact(zeT h1).elim
 case h_25=>cases h1
 case h_9=>
  split at h1;rotate_left
  ·cases h1
  simp only[obi,omi] at h1;obtain⟨_,_,_,_,_,_,h1⟩:=h1;cases h1
 all_goals
  rw[obi] at h1;obtain⟨d,hd,h1⟩:=h1
  repeat' (first|(rw[obi] at h1;obtain⟨_,_,h1⟩:=h1)|(rw[omi] at h1;obtain⟨_,_,h1⟩:=h1;cases h1;done)|(split at h1)|(cases h1;done))
theorem zfT{P:Program}{n:Nat}{o:Oper}{c:Call}{d:Nat}{x':Opd}(hc:yq P n o c=some (.mov d x')):False:=by
 unfold yq at hc;split at hc
 case h_8 f0 hf0=>
  simp only[obi,omi] at hc;obtain⟨d',hd,f',hf,xs',hxs,hc⟩:=hc;cases hc
 case h_9=>cases hc
 case h_5=>
  simp only[obi] at hc;obtain⟨_,_,_,_,_,_,_,_,_,_,_,_,hc⟩:=hc;split at hc
  ·simp only[omi] at hc;obtain⟨_,_,hc⟩:=hc;cases hc
  ·cases hc
 case h_2=>
  rw[obi] at hc;obtain⟨_,_,hc⟩:=hc;rw[obi] at hc;obtain⟨_,_,hc⟩:=hc;split at hc;rotate_left
  ·simp only[obi] at hc;obtain⟨_,_,_,_,_,_,_,_,_,_,_,_,hc⟩:=hc;split at hc
   ·simp only[obi,omi] at hc;obtain⟨_,_,_,_,hc⟩:=hc;cases hc
   ·cases hc
  simp only[obi] at hc;obtain⟨_,_,_,_,_,_,_,_,hc⟩:=hc;split at hc;rotate_left
  ·cases hc
  simp only[obi,omi] at hc;obtain⟨_,_,_,_,hc⟩:=hc;cases hc
 all_goals
  simp only[obi,omi] at hc;obtain⟨_,_,hc⟩:=hc
  repeat' (obtain⟨_,_,hc⟩:=hc)
  first|(cases hc;done)|skip
theorem zh8{P:Program}{n:Nat}{o:Oper}{d:Nat}{x':Opd}(h1:Yh P n o=some (.mov d x')):∃x,(o.op= .move x∨o.op= .assign x)∧o.dst=some d∧d < n∧zR x=some x':=by
 unfold Yh at h1;split at h1
 case h_1 x hop=>
  simp only[obi,omi] at h1;obtain⟨d',hd,x'',hx,h1⟩:=h1;cases h1;exact⟨x,.inl hop,(zm hd).1,(zm hd).2,hx⟩
 case h_2 x hop=>
  simp only[obi,omi] at h1;obtain⟨d',hd,x'',hx,h1⟩:=h1;cases h1;exact⟨x,.inr hop,(zm hd).1,(zm hd).2,hx⟩
 case h_24 c hop=>exact(zfT h1).elim
 case h_25=>cases h1
 case h_9=>
  split at h1;rotate_left
  ·cases h1
  simp only[obi,omi] at h1;obtain⟨_,_,_,_,_,_,h1⟩:=h1;cases h1
 all_goals
  rw[obi] at h1;obtain⟨d,hd,h1⟩:=h1
  repeat' (first|(rw[obi] at h1;obtain⟨_,_,h1⟩:=h1)|(rw[omi] at h1;obtain⟨_,_,h1⟩:=h1;cases h1;done)|(split at h1)|(cases h1;done))
theorem zfC{P:Program}{n:Nat}{o:Oper}{d:Nat}{f:Opd}{args:List Opd}(h1:Yh P n o=some (.callv d f args)):∃f0 xs ts,o.op= .call {callee:= .value f0,args:=xs,argTypes:=ts}∧o.dst=some d∧d < n∧zR f0=some f∧xs.toList.mapM zR=some args:=by
 have key:∃c:Call,o.op= .call c∧yq P n o c=some (.callv d f args):=by
  unfold Yh at h1;split at h1
  case h_24 c hop=>exact⟨c,hop,h1⟩
  case h_25=>cases h1
  case h_9=>
   split at h1;rotate_left
   ·cases h1
   simp only[obi,omi] at h1;obtain⟨_,_,_,_,_,_,h1⟩:=h1;cases h1
  all_goals
   rw[obi] at h1;obtain⟨d,hd,h1⟩:=h1
   repeat' (first|(rw[obi] at h1;obtain⟨_,_,h1⟩:=h1)|(rw[omi] at h1;obtain⟨_,_,h1⟩:=h1;cases h1;done)|(split at h1)|(cases h1;done))
 obtain⟨c,hop,hc⟩:=key;obtain⟨callee,xs,ts⟩:=c;have kk:∃f0,callee= .value f0∧j0 n o=some d∧zR f0=some f∧xs.toList.mapM zR=some args:=by
  unfold yq at hc;split at hc
  case h_8 f0 hf0=>
   simp only at hf0;subst hf0;simp only[obi,omi] at hc;obtain⟨d',hd,f',hf,xs',hxs,hc⟩:=hc;cases hc;exact⟨f0,rfl,hd,hf,hxs⟩
  case h_9=>cases hc
  case h_5=>
   simp only[obi] at hc;obtain⟨_,_,_,_,_,_,_,_,_,_,_,_,hc⟩:=hc;split at hc
   ·simp only[omi] at hc;obtain⟨_,_,hc⟩:=hc;cases hc
   ·cases hc
  case h_2=>
   rw[obi] at hc;obtain⟨_,_,hc⟩:=hc;rw[obi] at hc;obtain⟨_,_,hc⟩:=hc;split at hc;rotate_left
   ·simp only[obi] at hc;obtain⟨_,_,_,_,_,_,_,_,_,_,_,_,hc⟩:=hc;split at hc
    ·simp only[obi,omi] at hc;obtain⟨_,_,_,_,hc⟩:=hc;cases hc
    ·cases hc
   simp only[obi] at hc;obtain⟨_,_,_,_,_,_,_,_,hc⟩:=hc;split at hc;rotate_left
   ·cases hc
   simp only[obi,omi] at hc;obtain⟨_,_,_,_,hc⟩:=hc;cases hc
  all_goals
   simp only[obi,omi] at hc;obtain⟨_,_,hc⟩:=hc
   repeat' (obtain⟨_,_,hc⟩:=hc)
   first|(cases hc;done)|skip
 obtain⟨f0,rfl,hdd,hf,hxs⟩:=kk;exact⟨f0,xs,ts,hop,(zm hdd).1,(zm hdd).2,hf,hxs⟩
theorem zH.inner(R:zH cx m s a w){n sz i j:Nat}{f:NI}{xs:List (List D)}{cp:Option Nat}{e:List D}{d:D}(hf:m.inf n=some f)(hk:s.hp n=some (.data sz xs true cp))(hxe:xs[i]? =some e)(hej:e[j]? =some d)(hn:n < 1000000):
  ∃b cells T u bu,f.blk=some b∧f.sz=sz∧w.heap[b]? =some (.cells cells T (0,0))∧cells.toList[i * sz+j]? =some u∧Rd true w.heap d u bu∧bu.Nodup∧(∀c∈bu,cx.mine c∧m.own c=some n)∧
   ∀(w':World) (br bm:List Nat) (d':D),w'.os=w.os→w'.tape=w.tape→w'.output=w.output→w.heap.size≤w'.heap.size→(∀c,c < w.heap.size→c∉bu→w'.heap[c]? =w.heap[c]?)→d'.isCell=true→Rd true w'.heap d' u bm→bm.Nodup→
    (∀c∈bm,w.heap.size≤c∨c∈bu)→(∀c∈br,(w.heap.size≤c∨c∈bu)∧c < w'.heap.size)→(∀c∈br,c∉bm)→
    zH cx ⟨fun k=>if [zQ n].contains k then none else m.inf k,fun c=>if c∈br then none else if c∈bm then some n else m.own c⟩ ((s.er [zQ n]).blk n<|.data sz (xs.set i<|e.set j d') true cp) a w':=by
 have hN:=R.hp n;rw[hf,hk] at hN;unfold zY at hN;cases hb:f.blk with
 |none=>
  simp only[hb] at hN;obtain⟨_,_,_,_,e0,_⟩:=hN;cases e0;simp at hxe
 |some b=>
  simp only[hb] at hN;obtain⟨g1,g2,cells,T,g4,g5,g6,g6',bs,g8,g9,g10⟩:=hN;obtain⟨u,bu,p,q,hu,hr,rfl,hset⟩:=g8.focus hxe hej;obtain⟨hnd,hown⟩:=g9 rfl;have hnd1:=hnd;rw[List.nodup_append,List.nodup_append] at hnd;obtain⟨⟨np,nbu,npb⟩,nq,npq⟩:=hnd;refine⟨b,cells,T,u,bu,rfl,g6,g4,hu,hr,nbu,fun c hc=>⟨R.mine_of_own (hown c (by simp[hc])).1 hn,(hown c (by simp[hc])).1⟩,?_⟩;intro w' br bm d' h1 h2 h3 h4 h5 hcell hr' nbm hbm hbr hdis;have hmine:∀c∈bu,cx.mine c∧m.own c=some n:=fun c hc=>⟨R.mine_of_own (hown c (by simp[hc])).1 hn,(hown c (by simp[hc])).1⟩;have notin:∀c,c < w.heap.size→c∉bu→c∉br∧c∉bm:=fun c hc hn'=>⟨fun h=>by
   rcases(hbr c h).1 with h|h
   ·omega
   ·exact hn' h,fun h=>by
   rcases hbm c h with h|h
   ·omega
   ·exact hn' h⟩
  have keep:∀c,c < w.heap.size→c∉bu→(if c∈br then none else if c∈bm then some n else m.own c)=m.own c∧w'.heap[c]? =w.heap[c]?:=fun c hc hn'=>by
   obtain⟨k1,k2⟩:=notin c hc hn';rw[if_neg k1,if_neg k2];exact⟨rfl,h5 c hc hn'⟩
  have hself:[zQ n].contains n=false:=by
   rw[Bool.eq_false_iff];intro h;rw[List.contains_iff_mem] at h;simp only[List.mem_singleton] at h;unfold zQ at h;omega
  have E:Ext [zQ n] m w.heap ⟨fun k=>if [zQ n].contains k then none else m.inf k,fun c=>if c∈br then none else if c∈bm then some n else m.own c⟩ w'.heap:=by
   refine⟨fun k hk' g hg=> ?_,fun c x y z hc ho=> ?_,fun c x y z k g hc hk' hg ho hne=> ?_⟩
   ·show(if [zQ n].contains k then none else m.inf k)=some g;rw[hk'];simpa using hg
   ·have:=keep c (zL hc) (fun h=>by rw[(hmine c h).2] at ho;cases ho);exact⟨this.1.trans ho,this.2⟩
   ·have hkn:k≠n:=fun e0=>by
     subst e0;simp at hk'
    have:=keep c (zL hc) (fun h=>by rw[(hmine c h).2] at ho;cases ho;exact hkn O);exact⟨this.1.trans ho,this.2⟩
  refine⟨R.size,R.defers,fun t=>E.ver (R.sl t),fun k=> ?_,⟨fun c k hc=> ?_,fun c hc hW=> ?_⟩,⟨h1.trans R.fr.os,h2.trans R.fr.tape,h3.trans R.fr.output,by have:=R.fr.size;omega,fun c hc hW=> ?_⟩,fun t=>E.ver (R.gh t)⟩
  ·by_cases hkn:k=n
   ·subst hkn;show zY cx _ _ k (if k=k then some _ else _) (if [zQ k].contains k then none else m.inf k);rw[if_pos rfl,hself];simp only[Bool.false_eq_true,if_false,hf];unfold zY;simp only[hb];have hbb:b∉bu:=fun h=>(hown b (by simp[h])).2 hb;have kb:=keep b (zL g4) hbb;refine⟨g1,kb.1.trans g2,cells,T,kb.2.trans g4,g5,g6,g6',p++bm++q,?_,fun _=>⟨?_,fun c hc=> ?_⟩,fun h=>by cases h⟩
    ·refine hset w'.heap d' bm (fun c hc=> ?_) hcell hr';have hcb:c∉bu:=fun h=>by
      rcases List.mem_append.1 hc with hc|hc
      ·exact npb c hc c h rfl
      ·exact npq c (by simp[h]) c hc rfl
     obtain⟨x,y,z,hx⟩:=RdLL.there _ _ _ _ g8 c (by
      rcases List.mem_append.1 hc with hc|hc<;>simp[hc])
     exact(keep c (zL hx) hcb).2
    ·have old:∀c,c∈p∨c∈q→c∉bm:=fun c hc h=>by
      have hcb:c∉bu:=fun h=>by
       rcases hc with hc|hc
       ·exact npb c hc c h rfl
       ·exact npq c (by simp[h]) c hc rfl
      obtain⟨x,y,z,hx⟩:=RdLL.there _ _ _ _ g8 c (by rcases hc with hc|hc<;>simp[hc]);exact(notin c (zL hx) hcb).2 h
     rw[List.nodup_append,List.nodup_append];refine⟨⟨np,nbm,fun c hc c' hc' e0=>old c (.inl hc) (e0▸hc')⟩,nq,fun c hc c' hc' e0=> ?_⟩;subst e0;rcases List.mem_append.1 hc with hc|hc
     ·exact npq c (by simp[hc]) c hc' rfl
     ·exact old c (.inr hc') hc
    ·show(if c∈br then none else if c∈bm then some k else m.own c)=some k∧f.blk≠some c;simp only[List.mem_append] at hc;have old:c∈p∨c∈q→(if c∈br then none else if c∈bm then some k else m.own c)=some k∧f.blk≠some c:=fun hc=>by
      have hcb:c∉bu:=fun h=>by
       rcases hc with hc|hc
       ·exact npb c hc c h rfl
       ·exact npq c (by simp[h]) c hc rfl
      have hm:c∈p++bu++q:=by rcases hc with hc|hc<;>simp[hc]
      obtain⟨x,y,z,hx⟩:=RdLL.there _ _ _ _ g8 c hm;exact⟨(keep c (zL hx) hcb).1.trans (hown c hm).1,(hown c hm).2⟩
     rcases hc with(hc|hc)|hc
     ·exact old (.inl hc)
     ·rw[if_neg (fun h=>hdis c h hc),if_pos hc];refine⟨rfl,fun e0=> ?_⟩;rw[hb] at e0;cases e0;exact(notin b (zL g4) hbb).2 hc
     ·exact old (.inr hc)
   ·show zY cx _ _ k (if k=n then some _ else(if [zQ n].contains k then none else(s.hp k).map (Blk.er [zQ n]))) (if [zQ n].contains k then none else m.inf k);rw[if_neg hkn];have HN:=R.hp k;cases hck:[zQ n].contains k with
    |true=>trivial
    |false=>
     simp only[Bool.false_eq_true,if_false];cases hi:m.inf k with
     |none=>
      rw[hi] at HN;cases hx:s.hp k with
      |none=>trivial
      |some x=>rw[hx] at HN;exact HN.elim
     |some g=>
      rw[hi] at HN;cases hx:s.hp k with
      |none=>rw[hx] at HN;exact HN.elim
      |some x=>
       rw[hx] at HN;have hs:[zQ n].contains (zQ k)=false:=by
        rw[Bool.eq_false_iff];intro h;rw[List.contains_iff_mem] at h;simp only[List.mem_singleton] at h;unfold zQ at h;omega
       refine Ext.n E (by rw[hck,hs];rfl) (fun c hc=> ?_) hi HN;unfold zY at HN;simp only[hc] at HN;obtain⟨_,hm2,cells2,T2,hh,_⟩:=HN;have:=keep c (zL hh) (fun h=>by rw[(hmine c h).2] at hm2;cases hm2;exact hkn O);exact⟨this.1.trans hm2,this.2⟩
  ·have hc:(if c∈br then none else if c∈bm then some n else m.own c)=some k:=hc;split at hc
   ·cases hc
   ·split at hc
    ·rename_i h;obtain⟨_,_,_,hx⟩:=Rd.there _ _ _ hr' c h;exact zL hx
    ·have:=R.own.1 c k hc;omega
  ·have hlt:c < w.heap.size:=by have:=R.fr.size;omega
   refine(keep c hlt (fun h=> ?_)).1.trans (R.own.2 c hc hW);rcases(hmine c h).1 with h|h
   ·omega
   ·exact hW h
  ·have hlt:c < w.heap.size:=by have:=R.fr.size;omega
   rw[(keep c hlt (fun h=>by
    rcases(hmine c h).1 with h|h
    ·omega
    ·exact hW h)).2]
   exact R.fr.kept c hc hW
theorem zeL{α β:Type}{f:α→Option β}:∀{as:List α} {bs:List β},as.mapM f=some bs→as.length=bs.length
 |[],bs,h=>by simp at h;subst h;rfl
 |a::as,bs,h=>by
  simp only[List.mapM_cons,Option.pure_def,Option.bind_eq_bind,obi] at h;obtain⟨b,_,bs',h2,e⟩:=h;cases e;simp[zeL h2]
theorem RM0.inner{P:Program}{nn:Nat}{L:List RO}{s:St}{Q':St→Prop}{d1 d2 d3 p n i j sz sz':Nat}{x2:Opd}{xs ys ys':List (List D)}{cp:Option Nat}{e:List D}{k:FuncId}{v2:D}{rs:List D}
  (hp:s.sl p= .one (.ptr<|.nm n i j)) (hk:s.hp n=some (.data sz xs true cp)) (hxe:xs[i]? =some e) (hej:e[j]? =some (.sl sz' ys)) (hn:n < 1000000) (hne:d1≠d2)
  (h2:(s.set d1<|.one .any).ev x2= .one (.d v2)) (hv2:v2.flat=true) (hfn:Fn P k [⟨.sl sz' ys,.m<|.sl sz' ys'⟩,⟨v2,.b⟩] true rs)
  (h:RM0 P nn L (((((s.set d1<|.one .any).set d2<|.one<|.d v2).er [zQ n]).blk n<|.data sz (xs.set i<|e.set j<|.sl sz' ys') true cp).set d3<|KV rs) Q'):
  RM0 P nn (⟨⟨none,.load d1 none<|.t p⟩,0,[]⟩::⟨⟨none,.mov d2 x2⟩,0,[]⟩::⟨⟨none,.callv d3 (.c<|.one<|.fn k []) [.t d1,.t d2]⟩,0,[]⟩::L) s Q':=fun gs hL cx ops l m a w Qx hP hn' hm R hQ=>by
 subst hP;subst hn';cases gs with
 |nil=>cases hL
 |cons g1 gs=>
 cases gs with
 |nil=>cases hL
 |cons g2 gs=>
 cases gs with
 |nil=>cases hL
 |cons g3 gs=>
 simp only[List.map_cons,List.cons.injEq,RO.mk.injEq,and_true] at hL;obtain⟨rfl,rfl,rfl,hL⟩:=hL;have hlen:=zeL hm;cases l with
 |nil=>simp at hlen
 |cons o1 l=>
 cases l with
 |nil=>simp at hlen
 |cons o2 l=>
 cases l with
 |nil=>simp at hlen
 |cons o3 l=>
 simp only[List.mapM_cons,Option.pure_def,Option.bind_eq_bind,obi] at hm;obtain⟨g1,hg1,gs1,⟨g2,hg2,gs2,⟨g3,hg3,gs3,hgs,he3⟩,he2⟩,he1⟩:=hm;cases he3;cases he2;cases he1;obtain⟨a1,a2,_⟩:=Ju hg1;obtain⟨b1,b2,_⟩:=Ju hg2;obtain⟨c1,c2,_⟩:=Ju hg3;obtain⟨t,x,hop1,hd1,hlt1,hx1,hag⟩:=zg2 a1;obtain⟨x2',hop2,hd2,hlt2,hx2⟩:=zh8 b1;obtain⟨f0,xs3,ts3,hop3,hd3,hlt3,hf3,hxs3⟩:=zfC c1;have hpv:=R.opd hx1;have hpv:qV m w.heap (s.sl p) (a.eval x):=hpv;rw[hp] at hpv;obtain⟨_,f,b,hf,hb,hav⟩:=hpv;obtain⟨b',cells,T,u,bu,hb',hfs,hh,hu,hr,hnd,hown,_⟩:=R.inner hf hk hxe hej hn;rw[hb] at hb';cases hb';have hcell:w.cell? ⟨b,i * f.sz+j,none⟩=some u:=by
  rw[cell_of_row w b _ cells T _ hh,hfs];simpa using hu
 have hrun1:(execOp a.eval o1).run cx.P w= .ok (.value u) w:=by
  simp only[zbP,obi] at hag;obtain⟨td,htd,hag⟩:=hag;cases hA:km td with
  |true=>
   rw[hA] at hag;simp only[if_true,omi,szP] at hag;obtain⟨_,_,hag⟩:=hag;cases hag
  |false=>simp only[execOp,hop1,hav,Instr.loadAt,Instr.sureAddr,loadVar,Sem.run_bind,Sem.run_pure,Result.andThen_ok,Zt htd,hA,Bool.false_eq_true,if_false,load,Sem.run,hcell]
 have R1:=R.set hlt1 (v:= .one .any) (u:=u) ⟨jY O hr,trivial⟩;have hu1:(a.put (some d1) u).tmps.getD d1 undef=u:=by rw[zcT (by rw[R.size];exact hlt1)];simp
 have hv2':=R1.opd hx2;rw[h2] at hv2';have R2:=R1.set hlt2 hv2';have hu2:((a.put (some d1) u).put (some d2)<|(a.put (some d1) u).eval x2').tmps.getD d1 undef=u:=by
  rw[zcT (by rw[R1.size];exact hlt2),if_neg hne];exact hu1
 have hrun2:(execOp (a.put (some d1) u).eval o2).run cx.P w= .ok (.value<|(a.put (some d1) u).eval x2') w:=by
  rcases hop2 with ho|ho<;>simp only[execOp,ho]<;>rfl
 have step3:wpList cx.P ops Qx (o3::l) ((a.put (some d1) u).put (some d2)<|(a.put (some d1) u).eval x2') w:=by
  generalize hA2:(a.put (some d1) u).put (some d2) ((a.put (some d1) u).eval x2')=A2 at R2 hu2 ⊢;obtain⟨b',cells',T',u',bu,hb',_,hh',hu',hr,hnd,hown,hcont⟩:=R2.inner (s:=((s.set d1<|.one .any).set d2<|.one<|.d v2)) hf hk hxe hej hn;rw[hb] at hb';cases hb';rw[hh] at hh';cases hh';rw[hu] at hu';cases hu';obtain⟨us,hfu,hus⟩:=xG (c:=(k,[])) (R2.opd hf3) rfl;have husn:us.toList=[]:=by
   cases hul:us.toList with
   |nil=>rfl
   |cons y ys=>rw[hul] at hus;exact hus.elim
  have hargs:=kO R2 hxs3;obtain⟨y1,y2,hy,hy1⟩:∃y1 y2,xs3.toList=[y1,y2]∧A2.eval y1=u:=by
   cases hl:xs3.toList with
   |nil=>rw[hl] at hxs3;simp at hxs3
   |cons y1 r=>
    cases r with
    |nil=>rw[hl] at hxs3;simp only[List.mapM_cons,List.mapM_nil,Option.pure_def,Option.bind_eq_bind,obi] at hxs3;obtain⟨_,_,_,_,h⟩:=hxs3;simp_all
    |cons y2 r=>
     rw[hl] at hxs3;simp only[List.mapM_cons,Option.pure_def,Option.bind_eq_bind,obi] at hxs3;obtain⟨z1,hz1,zs1,⟨z2,hz2,zs2,hz3,e2⟩,e1⟩:=hxs3;cases e2;cases e1;have:r=[]:=by
      cases r with
      |nil=>rfl
      |cons y3 r=>simp only[List.mapM_cons,Option.pure_def,Option.bind_eq_bind,obi] at hz3;obtain⟨_,_,_,_,h⟩:=hz3;cases h
     subst this;refine⟨y1,y2,rfl,?_⟩;cases y1 with
     |tmp t1=>simp only[zR,Option.some.injEq,Opd.t.injEq] at hz1;subst hz1;exact hu2
     |const v=>simp only[zR,omi] at hz1;obtain⟨_,_,h⟩:=hz1;cases h
     |func g=>simp only[zR,Option.some.injEq] at hz1;cases hz1
     |global g=>cases hz1
  rw[hy] at hargs;simp only[List.map_cons,List.map_nil] at hargs;have hv2r:qV m w.heap (.one<|.d v2) (A2.eval y2):=by
   have:=hargs.2.1;have e:((s.set d1<|.one .any).set d2<|.one<|.d v2).ev (.t d2)= .one (.d v2):=by simp[St.ev,St.set]
   rwa [e] at this
  obtain⟨_,bs2,hr2,_⟩:=hv2r;have:=yd hv2 hr2;subst this;have hcall:=hfn.2 w [u,A2.eval y2] [bu,[]] ⟨hr,hr2,trivial⟩ (by simpa[ju,Md.owned] using hnd) (by simp[Za,Md.owned]);have hrun:(execOp A2.eval o3).run cx.P w= .ok (.enter k [u,A2.eval y2].toArray) w:=by
   simp only[execOp,hop3,resolve,hfu,Deferred.ofValue,Sem.run_bind,Sem.run_pure,Result.andThen_ok,invoke,Xg hfn.1];congr 2;apply Array.toList_inj.1;simp[husn,hy,hy1]
  unfold wpList;have hw:Region.wanted o3 (yielded ops A2.tmps)=true:=by simp[Region.wanted,c2 rfl]
  rw[if_pos hw];refine .inl ?_;unfold Oper.wp;rw[hrun];refine Calls.mono hcall fun e0 w' ⟨v,br,bm,he0,hpost⟩=> ?_;subst he0;show wpList cx.P ops Qx l (A2.put o3.dst v) w';rw[hd3];have hmu:=hpost.muts;obtain⟨bm1,bm2,rfl,hmu1,hmu2⟩:∃bm1 bm2,bm=[bm1,bm2]∧Rd true w'.heap (.sl sz' ys') u bm1∧bm2=[]:=by
   cases bm with
   |nil=>exact hmu.elim
   |cons q r=>cases r with
    |nil=>exact hmu.2.elim
    |cons q2 r=>cases r with
     |nil=>exact⟨q,q2,rfl,hmu.1,hmu.2.1⟩
     |cons _ _=>exact hmu.2.2.elim
  subst hmu2;have hob:ju [⟨.sl sz' ys,.m<|.sl sz' ys'⟩,⟨v2,.b⟩] [bu,[]]=bu:=by simp[ju,Md.owned]
  have hnb:=hpost.nodup;simp only[List.flatten_cons,List.flatten_nil,List.append_nil] at hnb;have hbr:∀c∈br.flatten,(w.heap.size≤c∨c∈bu)∧c < w'.heap.size:=fun c hc=>by
   obtain⟨x,y,z,e⟩:=hpost.res.there c hc;refine⟨?_,zL e⟩;rcases hpost.rfrom c hc with h|h|h
   ·exact .inl h
   ·rw[hob] at h;exact .inr h
   ·simp at h
  have R3:=hcont w' br.flatten bm1 (.sl sz' ys') hpost.os hpost.tape hpost.output hpost.size (fun c hc hcb=>hpost.kept c hc (by rw[hob];exact hcb)) O hmu1 hnb
   (fun c hc=>by
    have:=hpost.mfrom c (by simp[hc])
    rwa [hob] at this) hbr (fun c hc hc'=>hpost.apart c hc (by simp[hc']))
  have R4:=R3.set hlt3 (Kx hpost.res.weak (fun c hc=>by simp only;rw[if_pos hc]));exact h gs hL cx ops l _ _ _ Qx O O hgs R4 hQ
 have step2:wpList cx.P ops Qx (o2::o3::l) (a.put (some d1) u) w:=by
  unfold wpList;have hw:Region.wanted o2 (yielded ops (a.put (some d1) u).tmps)=true:=by simp[Region.wanted,b2 rfl]
  rw[if_pos hw];exact .inl (qY hrun2 (by rw[hd2];exact step3))
 unfold wpList;have hw:Region.wanted o1 (yielded ops a.tmps)=true:=by simp[Region.wanted,a2 rfl]
 rw[if_pos hw];exact .inl (qY hrun1 (by rw[hd1];exact step2))
end Go.AW
