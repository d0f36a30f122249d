/- The contract of Go's slices.SortFunc at a row of structs of two ints, sorted by the first, out of the library's own. A lemma of an own program logic; nothing is claimed here. Conditions: the row's length, the size of what it is sorted by. -/
import Derived.Test.YtlcjjljmjdmobaaXc
import Derived.Shelf.SlSortCmp.NoneTotal
set_option linter.unusedVariables false
set_option maxRecDepth 100000
namespace Go.AW
open Go.Proofs Go.Sort Go.Shelf Go.RowKit Go.Lib
abbrev KC:={p:Int×Int // 0≤p.1∧p.1≤1000000}
instance:Inhabited KC:=⟨⟨(0,0),by decide⟩⟩
def cfK(x y:KC):Int:=x.1.1 - y.1.1
def encK(x:KC):List Value:=[.int .i64 x.1.1,.int .i64 x.1.2]
def dK(x:KC):List D:=[.int .i64 x.1.1,.int .i64 x.1.2]
def sortK(zs:List KC):List KC:=(pdq (ltOf cfK) zs.toArray 0 zs.toArray.size (Lib.bitLen zs.toArray.size) true true).toList
theorem ltK(x y:KC):ltOf cfK x y=decide (x.1.1 < y.1.1):=by
 unfold ltOf cfK
 by_cases h:x.1.1 < y.1.1
 ·have h':x.1.1 - y.1.1 < 0:=by omega
  simp[h,h']
 ·have h':¬x.1.1 - y.1.1 < 0:=by omega
  simp[h,h']
theorem swoK:SWO (ltOf cfK) where
 irrefl x:=by rw[ltK];simp
 trans x y z h1 h2:=by rw[ltK] at *;simp at *;omega
 ntrans x y z h1 h2:=by rw[ltK] at *;simp at *;omega
theorem sortK_is(zs:List KC):PermIn 0 zs.toArray.size zs.toArray (sortK zs).toArray∧SortedIn (ltOf cfK) 0 zs.toArray.size (sortK zs).toArray:=by
 have h:=pdq_sorts (ltOf cfK) swoK zs.toArray 0 zs.toArray.size (Lib.bitLen zs.toArray.size) true true (Nat.zero_le _) (Nat.le_refl _) (Or.inl rfl)
 unfold sortK
 rw[Array.toArray_toList]
 exact⟨h.1,h.2⟩
theorem sortK_len(zs:List KC):(sortK zs).length=zs.length:=by
 have h:=(sortK_is zs).1.1
 simpa using h
theorem sortK_perm(zs:List KC):(sortK zs).Perm zs:=by
 obtain⟨⟨h1,_,h2⟩,_⟩:=sortK_is zs
 have e1:(sortK zs).toArray.extract 0 zs.toArray.size=(sortK zs).toArray:=by rw[←h1];exact Array.extract_size
 rw[e1,Array.extract_size] at h2
 simpa using h2
theorem sortK_le(zs:List KC)(i j:Nat)(hij:i < j)(hj:j < (sortK zs).length):(sortK zs)[i].1.1≤(sortK zs)[j].1.1:=by
 have hl:=sortK_len zs
 have h:=(sortK_is zs).2 i j (Nat.zero_le _) hij (by simp;omega)
 rw[getElem!_pos _ j (by simpa using hj),getElem!_pos _ i (by simp;omega),ltK] at h
 simp at h
 exact h
theorem rdll_pairs{o:Bool}{h:Hp}:∀{zs:List KC} {vs:List Value} {bs:List Nat},RdLL o h 2 (zs.map dK) vs bs→bs=[]∧∀j (hj:j < zs.length),vs[2 * j]? =some (.int .i64 zs[j].1.1)∧vs[2 * j+1]? =some (.int .i64 zs[j].1.2)
 |[],vs,bs,H=>by simp only[List.map_nil,RdLL] at H;exact⟨H,fun j hj=>by simp at hj⟩
 |z::zs,vs,bs,H=>by
  simp only[List.map_cons,RdLL,RdL,dK] at H
  obtain⟨b1,b2,rfl,_,⟨v,vs',c1,c2,e,rfl,_,hr,v',vs'',c3,c4,e',rfl,_,hr',rfl,rfl⟩,h2⟩:=H
  simp only[Rd] at hr hr'
  obtain⟨rfl,rfl⟩:=hr
  obtain⟨rfl,rfl⟩:=hr'
  obtain⟨rfl,h3⟩:=rdll_pairs h2
  refine⟨rfl,fun j hj=> ?_⟩
  match vs,e,h3 with
  |[],e,_=>simp at e
  |[_],e,_=>simp at e;rw[e'] at e;simp at e
  |u1::u2::us,e,h3=>
   rw[e'] at e
   simp only[List.take_succ_cons,List.take_zero,List.cons.injEq] at e
   cases j with
   |zero=>simp[e.1,e.2.1]
   |succ j=>
    have:=h3 j (by simpa using hj)
    rw[show 2 * (j+1)=2 * j+1+1 by omega]
    simpa using this
theorem pairs_rdll{o:Bool}{h:Hp}:∀{zs:List KC} {vs:List Value},(∀j (hj:j < zs.length),vs[2 * j]? =some (.int .i64 zs[j].1.1)∧vs[2 * j+1]? =some (.int .i64 zs[j].1.2))→RdLL o h 2 (zs.map dK) vs []
 |[],vs,H=>by simp[RdLL]
 |z::zs,vs,H=>by
  have h0:=H 0 (by simp)
  match vs,h0,H with
  |[],h0,_=>simp at h0
  |[_],h0,_=>simp at h0
  |u1::u2::us,h0,H=>
   simp only[Nat.mul_zero,List.getElem?_cons_zero,List.getElem_cons_zero,Option.some.injEq,Nat.zero_add,List.getElem?_cons_succ] at h0
   obtain⟨rfl,rfl⟩:=h0
   simp only[List.map_cons,RdLL,RdL,dK]
   refine⟨[],[],rfl,rfl,⟨_,_,[],[],rfl,rfl,rfl,by simp[Rd],_,_,[],[],rfl,rfl,rfl,by simp[Rd],rfl,rfl⟩,?_⟩
   refine pairs_rdll fun j hj=> ?_
   have:=H (j+1) (by simpa using hj)
   rw[show 2 * (j+1)=2 * j+1+1 by omega] at this
   simpa using this
theorem flat_at(zs:List KC)(j:Nat)(hj:j < zs.length):(flatK encK 2 zs.toArray)[2 * j]! = .int .i64 zs[j].1.1∧(flatK encK 2 zs.toArray)[2 * j+1]! = .int .i64 zs[j].1.2:=by
 have h2:2 * j / 2=j:=by omega
 have h3:(2 * j+1) / 2=j:=by omega
 have h4:2 * j % 2=0:=by omega
 have h5:(2 * j+1) % 2=1:=by omega
 have hz:zs.toArray[j]! =zs[j]:=by rw[getElem!_pos _ j (by simpa using hj)];simp
 constructor
 ·rw[get_flatK _ _ _ _ (by simp;omega),h2,h4,hz];rfl
 ·rw[get_flatK _ _ _ _ (by simp;omega),h3,h5,hz];rfl
theorem wrapK(x y:KC):IntKind.i64.wrap (x.1.1 - y.1.1)=x.1.1 - y.1.1:=by
 obtain⟨x,hx1,hx2⟩:=x
 obtain⟨y,hy1,hy2⟩:=y
 simp[IntKind.wrap,IntKind.bits,IntKind.signed];omega
theorem sortK_fn{P:Program}{ρ:Ren}(L:SlLaysF0.n6 P ρ){f g:FuncId}(hf:ρ.f 6=f)(hc:callable P f=true)(aE:∀w,(isAgg (ρ.t 24)).run P w= .ok true w)(zE:∀w,(Go.sizeOf (ρ.t 24)).run P w= .ok 2 w)
  (eg:∀args w,(callFunc g args).run P w= .ok (.enter g args) w)
  (hg:∀(x y:Int×Int) (W:World),Calls P g #[.agg #[.int .i64 x.1,.int .i64 x.2],.agg #[.int .i64 y.1,.int .i64 y.2]] W fun e w'=>e= .returned (.int .i64 (IntKind.i64.wrap (x.1 - y.1)))∧∃q os',w'=grow (W.drewN q) os')
  (zs:List KC) (hn:zs.length < 4611686018427387904):
  Fn P f [⟨.sl 2 (zs.map dK),.m (.sl 2 ((sortK zs).map dK))⟩,⟨.fn g [],.b⟩] true []:=by
 refine⟨hc,fun w vs bss HA hnd hap=> ?_⟩
 subst hf
 have hlen:=HA.length
 simp only[List.length_cons,List.length_nil] at hlen
 match vs,bss,HA,hlen with
 |[v,u],[b,c],⟨H0,HB,_⟩,_=>
  have H:Rd true w.heap (.sl 2 (zs.map dK)) v b:=ArgR.own rfl H0
  have H1:Rd false w.heap (.fn g []) u c:=ArgR.bor rfl HB
  clear H0 HB
  simp only[Rd,List.length_map] at H H1
  obtain⟨us,rfl,H2⟩:=H1
  simp only[RdL] at H2
  have hu:us=#[]:=Array.toList_eq_nil_iff.1 H2.1
  have hcn:c=[]:=H2.2
  subst hu hcn
  obtain⟨a,cap,rfl,H⟩:=H
  rcases H with⟨h1,h2,h3⟩|⟨blk,off,cells,T,fz,bs',rfl,hh,rfl,hl,hcs,ho,hr⟩
  ·have hz:zs=[]:=by simpa using h1
   subst hz h2
   have hs0:sortK []=[]:=List.eq_nil_of_length_eq_zero (by rw[sortK_len];rfl)
   rw[hs0]
   refine(AnyF.slices_SortFunc_none L a cap _ w).mono fun e w' hw=> ?_
   obtain⟨rfl,rfl⟩:=hw
   refine⟨.tuple #[],[],[[],[]],rfl,?_⟩
   exact⟨rfl,rfl,rfl,Nat.le_refl _,fun _ _ _=>rfl,⟨#[],rfl,trivial⟩,⟨by show Rd true _ (.sl 2 _) _ _;simp only[Rd];exact⟨a,cap,rfl,.inl ⟨by simp,by trivial,fun _=>h3 (by trivial)⟩⟩,rfl,trivial⟩,by simp,by simp,by simp,by simp,by simp⟩
  ·obtain⟨rfl,rfl⟩:=ho (by trivial)
   obtain⟨rfl,hv⟩:=rdll_pairs hr
   simp only[List.drop_zero] at hv
   have hb:blk < w.heap.size:=(Array.getElem?_eq_some_iff.1 hh).1
   have hH:HoldsK encK 2 w blk 0 zs.toArray:=fun t ht=>by
    rw[size_flatK] at ht
    simp only[List.size_toArray] at ht
    have hj:t / 2 < zs.length:=by omega
    obtain⟨v1,v2⟩:=hv (t / 2) hj
    obtain⟨f1,f2⟩:=flat_at zs (t / 2) hj
    refine⟨?_,?_⟩
    ·unfold World.cell?
     simp only[hh,Nat.zero_add]
     simp only[Array.getElem?_toList] at v1 v2
     rcases(by omega:t=2 * (t / 2)∨t=2 * (t / 2)+1) with e|e
     ·rw[e,f1];simpa using v1
     ·rw[e,f2];simpa using v2
    ·unfold World.frozen?
     simp[hh]
   have hS:=AnyQ.slices_SortFunc_eq L 2 aE zE encK (fun _=>rfl) (fun x v hv=>by simp[encK] at hv;rcases hv with rfl|rfl<;>rfl) cfK swoK g #[] blk 0 cap zs.toArray w eg
    (fun _ _ _ _ x y=>by
     have:=hg x.1 y.1
     rw[wrapK] at this
     exact this _) hH hb (by simpa using hn)
   have hsz:zs.toArray.size=zs.length:=by simp
   refine(show Calls P (ρ.f 6) _ w _ from (by rw[hsz] at hS;exact hS)).mono fun e w' hw=> ?_
   obtain⟨rfl,n,os,rfl⟩:=hw
   have hk:(pdq (ltOf cfK) zs.toArray 0 zs.length (Lib.bitLen zs.length) true true)=(sortK zs).toArray:=by
    unfold sortK
    rw[hsz]
   rw[hk]
   refine⟨.tuple #[],[],[[blk],[]],rfl,?_⟩
   generalize hF:flatK encK 2 (sortK zs).toArray=F
   have hFs:F.size=(sortK zs).length * 2:=by rw[←hF,size_flatK];simp
   have hsw:sortWorldK encK 2 w blk 0 n (sortK zs).toArray os=grow (putRow id (Sort.ahead w n) blk 0 F) os:=by rw[←hF];rfl
   rw[hsw]
   have hhp:∀k,k < w.heap.size→(grow (putRow id (Sort.ahead w n) blk 0 F) os).heap[k]? =if blk=k then(w.heap[k]?).map (onCells (putCells id 0 F)) else w.heap[k]?:=fun k hk=>by
    show((w.heap.modify blk _)++os)[k]? =_
    rw[Array.getElem?_append_left (by simpa using hk),Array.getElem?_modify]
   refine⟨rfl,rfl,rfl,?_,fun k hk hno=> ?_,⟨#[],rfl,trivial⟩,⟨?_,rfl,trivial⟩,by simp,by simp,by simp,?_,by simp⟩
   ·show w.heap.size≤((w.heap.modify blk _)++os).size
    simp
   ·have hne:blk≠k:=fun e=>by subst e;exact hno (by simp[ownBs,Md.owned])
    have:=hhp k hk
    rw[if_neg hne] at this
    exact this
   ·show Rd true _ (.sl 2 _) _ _
    simp only[Rd,List.length_map,sortK_len]
    refine⟨_,cap,rfl,.inr ⟨blk,0,putCells id 0 F cells,T,(0,0),[],rfl,?_,rfl,hl,?_,fun _=>⟨rfl,rfl⟩,?_⟩⟩
    ·have:=hhp blk hb
     rw[if_pos rfl,hh] at this
     exact this
    ·unfold putCells;simpa using hcs
    ·have hcell:∀t,t < F.size→(putCells id 0 F cells).toList[t]? =some F[t]!:=fun t ht=>by
      have htc:t < cells.size:=by rw[hFs,sortK_len] at ht;have:=Nat.mul_le_mul_right 2 hl;omega
      simp only[Array.getElem?_toList]
      unfold putCells
      rw[Array.getElem?_mapIdx]
      have e:cells[t]? =some cells[t]:=by simp[htc]
      rw[e]
      simp[ht]
     refine pairs_rdll fun j hj=> ?_
     obtain⟨f1,f2⟩:=flat_at (sortK zs) j hj
     rw[hF] at f1 f2
     simp only[List.drop_zero]
     rw[hcell _ (by omega),hcell _ (by omega),f1,f2]
     exact⟨rfl,rfl⟩
   ·intro k hk
    right
    simpa[ownBs,Md.owned] using hk
end Go.AW
