/- That each further operation does in the model what the compact one says: lemmas of an own program logic; nothing is claimed here. Conditions: none. -/
import Derived.Test.YtpabbbmfcgnhdaaGreatF
import Derived.Laws.MakeOwn
import Derived.Laws.AppendOwn
set_option linter.unusedVariables false
namespace Go.AW
variable {cx:Cx} {m:M} {s:St} {a:Act} {w:World} {o:Oper} {K:Act→World→Prop} {Q:Exit→Act→World→Prop}
theorem zl.cell{h:Hp}:∀{cs:List C} {vs:List Value},zl (qE m h) cs vs→∀v∈vs,v.oneCell'=true
 |[],[],_,v,hv=>by cases hv
 |c::cs,u::us,H,v,hv=>by
  rcases List.mem_cons.1 hv with rfl|hv
  ·exact H.1.1
  ·exact zl.cell H.2 v hv
 |[],_::_,H,_,_=>H.elim
 |_::_,[],H,_,_=>H.elim
theorem xR{α:Type}{l ys:List α}{i:Nat}(h:i+ys.length≤l.length):(splice l i ys).length=l.length:=by
 simp only[splice,List.length_append,List.length_take,List.length_drop];omega
theorem zgB(a:Act)(v:Value):a.put none v=a:=rfl
theorem ziO(R:zt cx m s a w){n:Nat}{t:TypeId}{x v:Operand}{x' v':Opd}{zs:List D}(ho:o.op= .store t x v)(hd:o.dst=none)(hx:zJ x=some x')(hv:zJ v=some v')(hn:szP cx.P t=some n){out:Out}
  (he:ev s (.store n zs x' v')=some out) (hK:∀m' a' w',zt cx m' (s.app out) a' w'→K a' w'):o.wp cx.P a w K Q:=by
 have hp:=R.opd hx;have hu:=R.opd hv;simp only[szP,omi] at hn;obtain⟨i,hi,hin⟩:=hn;simp only[ev,obi] at he;obtain⟨cs,hcs,he⟩:=he;split at he<;>simp only[omi,reduceCtorEq] at he;rename_i hlen;obtain⟨⟨k,blk⟩,hwr,rfl⟩:=he;have hrel:=hu.cells hcs;have hcl:=hrel.length;unfold St.wr at hwr;split at hwr;rotate_left
 ·cases hwr
 rename_i k' ei j hpv;rw[hpv] at hp;obtain⟨_,f,b,hf,hb,hav⟩:=hp;have hN:=R.hp k';rw[hf] at hN;have key:∀(blk:Blk) (cells:Array Value) (T:TypeId) (off:Nat),off=ei * f.sz+j→w.heap[b]? =some (.cells cells T (0,0))→off+cs.length≤cells.size→
   (Ext [] m w.heap m (w.setRow b (splice cells.toList off (a.eval v).cells.toList).toArray).heap→zhQ m (w.setRow b (splice cells.toList off (a.eval v).cells.toList).toArray).heap k' f blk (splice cells.toList off (a.eval v).cells.toList))→
   zt cx m (s.blk k' blk) a (w.setRow b (splice cells.toList off (a.eval v).cells.toList).toArray)∧
   (execOp a.eval o).run cx.P w= .ok .skip (w.setRow b (splice cells.toList off (a.eval v).cells.toList).toArray):=by
  intro blk cells T off hoff hh hfit hB;have hsz:(splice cells.toList off (a.eval v).cells.toList).toArray.size=cells.size:=by
   simp only[List.size_toArray];rw[xR (by rw[hcl];simpa using hfit)];simp
  have hE:Ext [] m w.heap m (w.setRow b (splice cells.toList off (a.eval v).cells.toList).toArray).heap:=by
   obtain⟨k0,hk0⟩:=zT.some_blk hN;rw[hk0] at hN;unfold zT at hN;simp only[hb] at hN;have hown:=hN.2.1;have hother:∀c,c≠b→(w.setRow b (splice cells.toList off (a.eval v).cells.toList).toArray).heap[c]? =w.heap[c]?:=fun c hc=>by
    simp only[World.setRow,Array.getElem?_modify];rw[if_neg (Ne.symm hc)]
   refine⟨fun _ _ _ h=>h,fun c x y z hc ho=>⟨ho,hother c ?_⟩,fun c x y z j g hc _ hg ho hj=>⟨ho,hother c ?_⟩⟩
   ·intro e;subst e;rw[hown] at ho;cases ho
   ·intro e;subst e;rw[hown] at ho;cases ho;rw[hf] at hg;cases hg;exact hj hb
  refine⟨(R.upd (k:=blk) hf hb hh hsz (by simpa using hB hE)).1,?_⟩;have hst:=run_storeCells_at cx.P b off T (a.eval v).cells.toList 0 cells w hh (by rw[hcl];simpa using hfit) (zl.cell hrel);simp only[Nat.add_zero] at hst;have hne:((a.eval v).cells.size≠n)=False:=by
   have:(a.eval v).cells.size=n:=by rw[←hlen,←hcl];simp
   simp[this]
  rw[hoff] at hst;rw[hoff];simp only[execOp,ho,hav,Instr.storeAt,Instr.sureAddr,storeVar,Sem.run_bind,Sem.run_pure,Result.andThen_ok,qt hi,hin,hne,if_false,hst];simp[splice]
 split at hwr
 ·rename_i sz ds hk;split at hwr<;>simp only[Option.some.injEq,Prod.mk.injEq,reduceCtorEq] at hwr;rename_i hle;obtain⟨rfl,rfl⟩:=hwr;rw[hk] at hN;unfold zT at hN;simp only[hb] at hN;obtain⟨g1,g2,cells,T,g4,g5,g6,g7⟩:=hN;have hdl:=g7.length;simp only[Array.length_toList] at hdl;obtain⟨h1,h2⟩:=key (.vars sz<|splice ds (ei * sz+j) cs) cells T (ei * sz+j) (by rw[g6]) g4 (by omega) (fun E=>⟨g6,by
   have e1:zl (qE m (w.setRow b (splice cells.toList (ei * sz+j) (a.eval v).cells.toList).toArray).heap) ds cells.toList:=zl.mono (fun c _ v=>E.c (QC c)) g7;have e2:=zl.mono (fun c _ v=>E.c (QC c)) hrel;unfold splice at e1 e2 ⊢;have:=zl.append (zl.append (zl.take (ei * sz+j) e1) e2) (zl.drop (ei * sz+j+cs.length) e1)
   rwa [←hcl] at this ⊢⟩)
  exact zef h2 (by rw[hd];exact hK m _ _ h1)
 ·rename_i sz xs own cp hk;simp only[obi] at hwr;obtain⟨e,hxe,hwr⟩:=hwr;split at hwr<;>simp only[omi,Prod.mk.injEq,reduceCtorEq] at hwr;rename_i hle;obtain⟨ds,hds,rfl,rfl⟩:=hwr;rw[hk] at hN;unfold zT at hN;simp only[hb] at hN;obtain⟨g1,g2,cells,T,g4,g5,g6,g6',bs,g8,g9,g10⟩:=hN;have hei:=(List.getElem?_eq_some_iff.1 hxe).1;have hfits:=g8.fits;simp only[Array.length_toList] at hfits;obtain⟨hesz,_⟩:=RdLL.at g8 hxe;have hle2:ei * sz+sz≤xs.length * sz:=by rw[←Nat.succ_mul];exact Nat.mul_le_mul_right _ hei
  obtain⟨h1,h2⟩:=key (.data sz (xs.set ei<|splice e j ds) own cp) cells T (ei * sz+j) (by rw[g6]) g4 (by omega) (fun E=>by
   refine⟨g6,g6',?_⟩;have g8':RdLL own (w.setRow b (splice cells.toList (ei * sz+j) (a.eval v).cells.toList).toArray).heap sz xs cells.toList bs:=by
    refine RdLL.congr _ _ _ _ (fun c hc=> ?_) g8;obtain⟨x,y,z,hxyz⟩:=RdLL.there _ _ _ _ g8 c hc;cases own with
    |true=>exact(E.hid c x y z k' f hxyz O hf ((g9 O).2 c hc).1 ((g9 O).2 c hc).2).2
    |false=>exact(E.free c x y z hxyz<|g10 O c hc).2
   obtain⟨b2,hr2,ho2,hb2⟩:=Kr (m:=m) hds (zl.mono (fun c _ v=>E.c (QC c)) hrel);have hk2:=hr2.length;obtain⟨p,q,hset,hsub⟩:=RdLL.store g8' hxe (by rw[←hk2,hcl];omega) hr2;refine⟨p++b2++q,hset,fun e=> ?_,fun e c hc=> ?_⟩
   ·have e0:=ho2 e;subst e0;simp only[List.append_nil];exact⟨List.Nodup.sublist hsub (g9 e).1,fun c hc=>(g9 e).2 c (hsub.subset hc)⟩
   ·simp only[List.mem_append] at hc;rcases hc with(hc|hc)|hc
    ·exact g10 e c (hsub.subset (by simp[hc]))
    ·exact hb2 c hc
    ·exact g10 e c (hsub.subset (by simp[hc])))
  exact zef h2 (by rw[hd];exact hK m _ _ h1)
 ·cases hwr
 ·cases hwr
end Go.AW
