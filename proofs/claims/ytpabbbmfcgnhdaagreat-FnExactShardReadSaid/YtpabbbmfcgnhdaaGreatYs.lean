/- The contract of Go's slices.Sort at a row of ints, out of the library's own: what was handed over reads sorted. A lemma of an own program logic; nothing is claimed here. Conditions: the row's length. -/
import Derived.Test.YtpabbbmfcgnhdaaGreatXc
import Derived.Shelf.Sort.Plain
import Derived.Shelf.Slices.In.SortNone
import Derived.Shelf.Slices.CompactI
set_option linter.unusedVariables false
set_option maxRecDepth 100000
namespace Go.AW
open Go.Proofs Go.Sort Go.Shelf
def zdk(zs:List Int):List Int:=zs.mergeSort fun x y=>decide (x≤y)
theorem zat(zs:List Int):(zdk zs).length=zs.length:=List.length_mergeSort zs
theorem zfk{o:Bool}{h:Hp}:∀{zs:List Int} {vs:List Value} {bs:List Nat},RdLL o h 1 (zs.map fun z=>[D.int .i64 z]) vs bs→bs=[]∧∀j (hj:j < zs.length),vs[j]? =some (.int .i64 zs[j])
 |[],vs,bs,H=>by simp only[List.map_nil,RdLL] at H;exact⟨H,fun j hj=>by simp at hj⟩
 |z::zs,vs,bs,H=>by
  simp only[List.map_cons,RdLL,RdL] at H;obtain⟨b1,b2,rfl,_,⟨v,vs',c1,c2,e,rfl,_,hr,rfl,rfl⟩,h2⟩:=H;simp only[Rd] at hr;obtain⟨rfl,rfl⟩:=hr;obtain⟨rfl,h3⟩:=zfk h2;refine⟨rfl,fun j hj=> ?_⟩;cases vs with
  |nil=>simp at e
  |cons u us=>
   simp only[List.take_succ_cons,List.take_zero,List.cons.injEq] at e;cases j with
   |zero=>simp[e.1]
   |succ j=>simpa using h3 j (by simpa using hj)
theorem ze1{o:Bool}{h:Hp}:∀{zs:List Int} {vs:List Value},(∀j (hj:j < zs.length),vs[j]? =some (.int .i64 zs[j]))→RdLL o h 1 (zs.map fun z=>[D.int .i64 z]) vs []
 |[],vs,H=>by simp[RdLL]
 |z::zs,vs,H=>by
  simp only[List.map_cons,RdLL,RdL];cases vs with
  |nil=>have:=H 0 (by simp);simp at this
  |cons u us=>
   have h0:=H 0 (by simp);simp only[List.getElem?_cons_zero,List.getElem_cons_zero,Option.some.injEq] at h0;subst h0;refine⟨[],[],rfl,rfl,⟨.int .i64 z,[],[],[],by simp,rfl,rfl,by simp[Rd],rfl,rfl⟩,ze1 fun j hj=> ?_⟩;have:=H (j+1) (by simpa using hj);simpa using this
theorem zot{P:Program}{ρ:Ren}(L:Lays.n189 P ρ){f:FuncId}(hf:ρ.f 189=f)(hc:callable P f=true)(zs:List Int)(hn:zs.length < 4611686018427387904):
  Fn P f [⟨.sl 1 (zs.map fun z=>[D.int .i64 z]),.m<|.sl 1 ((zdk zs).map fun z=>[D.int .i64 z])⟩] true []:=by
 refine⟨hc,fun w vs bss HA hnd hap=> ?_⟩;subst hf;cases vs with
 |nil=>cases bss<;>exact HA.elim
 |cons v vs=>
  cases bss with
  |nil=>exact HA.elim
  |cons b bss=>
   obtain⟨H0,HA⟩:=HA;cases vs with
   |cons _ _=>cases bss<;>exact HA.elim
   |nil=>
    cases bss with
    |cons _ _=>exact HA.elim
    |nil=>
     have H:Rd true w.heap (.sl 1 (zs.map fun z=>[D.int .i64 z])) v b:=zeo.own O H0;clear H0;simp only[Rd,List.length_map] at H;obtain⟨a,cap,rfl,H⟩:=H;rcases H with⟨h1,h2,h3⟩|⟨blk,off,cells,T,fz,bs',rfl,hh,rfl,hl,hcs,ho,hr⟩
     ·have hz:zs=[]:=by simpa using h1
      subst hz h2;have hs0:zdk []=[]:=by simp[zdk]
      rw[hs0];refine(Any.slices_Sort_int_none L a cap w).mono fun e w' hw=> ?_;obtain⟨rfl,rfl⟩:=hw;refine⟨.tuple #[],[],[[]],rfl,?_⟩;exact⟨rfl,rfl,rfl,Nat.le_refl _,fun _ _ _=>rfl,⟨#[],rfl,trivial⟩,⟨by show Rd true _ (.sl 1 _) _ _;simp only[Rd];exact⟨a,cap,rfl,.inl ⟨by simp,by trivial,fun _=>h3 (by trivial)⟩⟩,trivial⟩,by simp,by simp,by simp,by simp,by simp⟩
     ·obtain⟨rfl,rfl⟩:=ho (by trivial);obtain⟨rfl,hv⟩:=zfk hr;simp only[List.drop_zero] at hv;have hb:blk < w.heap.size:=(Array.getElem?_eq_some_iff.1 hh).1;have hH:Holds (Value.int .i64) w blk 0 zs.toArray:=fun j hj=>by
       simp only[List.size_toArray] at hj;refine⟨?_,?_⟩
       ·unfold World.cell?;simp only[hh,Nat.zero_add];have:=hv j hj;simp only[Array.getElem?_toList] at this;simpa[hj] using this
       ·unfold World.frozen?;simp[hh]
      refine(Any.slices_Sort_int L blk 0 cap zs w hH hb hn).mono fun e w' hw=> ?_;obtain⟨rfl,n,os,rfl⟩:=hw;refine⟨.tuple #[],[],[[blk]],rfl,?_⟩;have hhp:∀k,k < w.heap.size→(grow (putRow (Value.int .i64) (Sort.ahead w n) blk 0 (zdk zs).toArray) os).heap[k]? =if blk=k then(w.heap[k]?).map (onCells<|putCells (Value.int .i64) 0 (zdk zs).toArray) else w.heap[k]?:=fun k hk=>by
       show((w.heap.modify blk _)++os)[k]? =_;rw[Array.getElem?_append_left (by simpa using hk),Array.getElem?_modify]
      refine⟨rfl,rfl,rfl,?_,fun k hk hno=> ?_,⟨#[],rfl,trivial⟩,⟨?_,trivial⟩,by simp,by simp,by simp,?_,by simp⟩
      ·show w.heap.size≤((w.heap.modify blk _)++os).size;simp
      ·have hne:blk≠k:=fun e=>by subst e;exact hno (by simp[yt,Md.owned])
       show(grow _ os).heap[k]? =_;have:=hhp k hk;rw[if_neg hne] at this;exact this
      ·show Rd true _ (.sl 1 _) _ _;simp only[Rd,List.length_map,zat];refine⟨_,cap,rfl,.inr ⟨blk,0,putCells (Value.int .i64) 0 (zdk zs).toArray cells,T,(0,0),[],rfl,?_,rfl,hl,?_,fun _=>⟨rfl,rfl⟩,?_⟩⟩
       ·have:=hhp blk hb;rw[if_pos rfl,hh] at this;exact this
       ·unfold putCells;simpa using hcs
       ·refine ze1 fun j hj=> ?_;have hj':j < zs.length:=by rwa [zat] at hj
        have hjc:j < cells.size:=by
         have:=hv j hj';simp only[Array.getElem?_toList] at this;exact(Array.getElem?_eq_some_iff.1 this).1
        simp only[List.drop_zero,Array.getElem?_toList];unfold putCells;rw[Array.getElem?_mapIdx];have e:cells[j]? =some cells[j]:=by simp[hjc]
        rw[e];simp[hj]
      ·intro k hk;right;simpa[yt,Md.owned] using hk
theorem zgV(zs:List Int):(Lib.compact zs).length≤zs.length:=by
 unfold Lib.compact Lib.compactUpTo;rw[List.length_map];exact Nat.le_trans (List.length_filter_le _ _) (by simp)
theorem zkZ{P:Program}{ρ:Ren}(L:Lays2.n20 P ρ){f:FuncId}(hf:ρ.f 20=f)(hc:callable P f=true)(zs:List Int)(hn:zs.length≤9223372036854775807):
  Fn P f [⟨.sl 1 (zs.map fun z=>[D.int .i64 z]),.g⟩] true [.sl 1 ((Lib.compact zs).map fun z=>[D.int .i64 z])]:=by
 refine⟨hc,fun w vs bss HA hnd hap=> ?_⟩;subst hf;have hlen:=HA.length;simp only[List.length_cons,List.length_nil] at hlen
 match vs,bss,HA,hlen with
 |[v],[b],⟨H0,_⟩,_=>
  have H:Rd true w.heap (.sl 1 (zs.map fun z=>[D.int .i64 z])) v b:=zeo.own O H0;clear H0;simp only[Rd,List.length_map] at H;obtain⟨a,cap,rfl,H⟩:=H;rcases H with⟨h1,h2,h3⟩|⟨blk,off,cells,T,fz,bs',rfl,hh,rfl,hl,hcs,ho,hr⟩
  ·have hz:zs=[]:=by simpa using h1
   subst hz h2;have hs0:Lib.compact ([]:List Int)=[]:=by have:=zgV [];exact List.eq_nil_of_length_eq_zero (by simpa using this)
   rw[hs0];refine(Any.slices_Compact_int_empty L a cap w).mono fun e w' hw=> ?_;obtain⟨rfl,rfl⟩:=hw;refine⟨_,[[]],[[]],rfl,?_⟩;exact⟨rfl,rfl,rfl,Nat.le_refl _,fun _ _ _=>rfl,⟨[],rfl,by simp only[Rd];exact⟨a,cap,rfl,.inl ⟨by simp,by trivial,fun _=>h3 (by trivial)⟩⟩⟩,⟨rfl,trivial⟩,by simp,by simp,by simp,by simp,by simp⟩
  ·obtain⟨rfl,rfl⟩:=ho (by trivial);obtain⟨rfl,hv⟩:=zfk hr;simp only[List.drop_zero] at hv;have hb:blk < w.heap.size:=(Array.getElem?_eq_some_iff.1 hh).1;have hH:Holds (Value.int .i64) w blk 0 zs.toArray:=fun j hj=>by
    simp only[List.size_toArray] at hj;refine⟨?_,?_⟩
    ·unfold World.cell?;simp only[hh,Nat.zero_add];have:=hv j hj;simp only[Array.getElem?_toList] at this;simpa[hj] using this
    ·unfold World.frozen?;simp[hh]
   refine(Any.slices_Compact_int L blk 0 cap zs w hH hn (by omega)).mono fun e w' hw=> ?_;obtain⟨rfl,q,rfl⟩:=hw;have hcl:=zgV zs;refine⟨_,[[blk]],[[]],rfl,?_⟩;generalize hR:(Lib.compact zs++List.replicate (zs.length - (Lib.compact zs).length) 0).toArray=R;have hhp:∀k,(putRow (Value.int .i64) (Sort.ahead w q) blk 0 R).heap[k]? =if blk=k then(w.heap[k]?).map (onCells<|putCells (Value.int .i64) 0 R) else w.heap[k]?:=fun k=>by
    show(w.heap.modify blk _)[k]? =_;rw[Array.getElem?_modify]
   refine⟨rfl,rfl,rfl,?_,fun k hk hno=> ?_,⟨[blk],rfl,?_⟩,⟨rfl,trivial⟩,by simp,by simp,by simp,by simp,?_⟩
   ·show w.heap.size≤(w.heap.modify blk _).size;simp
   ·have hne:blk≠k:=fun e=>by subst e;exact hno (by simp[yt,Md.owned])
    rw[hhp k,if_neg hne]
   ·simp only[Rd,List.length_map];refine⟨_,cap,rfl,.inr ⟨blk,0,putCells (Value.int .i64) 0 R cells,T,(0,0),[],rfl,?_,rfl,by omega,?_,fun _=>⟨by trivial,by trivial⟩,?_⟩⟩
    ·rw[hhp blk,if_pos rfl,hh];rfl
    ·unfold putCells;simpa using hcs
    ·refine ze1 fun j hj=> ?_;have hjz:j < zs.length:=by omega
     have hjc:j < cells.size:=by
      have:=hv j hjz;simp only[Array.getElem?_toList] at this;exact(Array.getElem?_eq_some_iff.1 this).1
     simp only[List.drop_zero,Array.getElem?_toList];unfold putCells;rw[Array.getElem?_mapIdx];have e:cells[j]? =some cells[j]:=by simp[hjc]
     rw[e];have hRs:R.size=zs.length:=by subst hR;simp;omega
     have hRj:R[j]! =(Lib.compact zs)[j]:=by
      subst hR;rw[getElem!_pos _ j (by simp;omega)];simp[hj]
     simp[hRs,hjz];rw[←getElem!_pos R j (by omega)];exact hRj
   ·intro k hk;right;left;simpa[yt,Md.owned] using hk
end Go.AW
