/- The contract of Go's slices.Grow at no slice, out of the library's own: an empty row of one's own. A lemma of an own program logic; nothing is claimed here. Conditions: the number asked for. -/
import Derived.Test.YtpabbbmfcgnhdaaGreatXc
import Derived.Shelf.Spec.SlicesGrow
import Derived.Laws.AppendOwn
set_option linter.unusedVariables false
set_option maxRecDepth 100000
namespace Go.AW
open Go.Proofs Go.Shelf
theorem zn2{P:Program}{ρ:Ren}(L:Lays8.n4 P ρ){f:FuncId}(hf:ρ.f 4=f)(hc:callable P f=true){i0:TypeInfo}{z:Value}{sz:Nat}(hi0:P.info? (ρ.t 25)=some i0)(hz0:i0.zero=some z)(hs0:0 < i0.size)(hsz:i0.size=sz)(hzc:z.cells.size=i0.size)(hby:i0.bytes≤65536)
  (n:Nat) (hn:n≤1000000000):Fn P f [⟨.sl sz [],.z⟩,⟨.int .i64 (n:Int),.b⟩] true [.sl sz []]:=by
 refine⟨hc,fun w vs bss HA hnd hap=> ?_⟩;subst hf hsz;have hl:=HA.length;simp only[List.length_cons,List.length_nil] at hl
 match vs,bss,HA,hl with
 |[v,u],[b,c],⟨H,H2,_⟩,_=>
  have H2:=zhd O H2;simp only[Rd] at H2;obtain⟨rfl,rfl⟩:=H2;obtain⟨_,a,rfl⟩:=H;by_cases h:n=0
  ·subst h;refine(Any8.slices_Grow_room L a 0 0 0 w (by omega) (by omega) (by omega) (by omega)).mono fun e w' hw=> ?_;obtain⟨rfl,rfl⟩:=hw;refine⟨_,[[]],[[],[]],rfl,?_⟩;exact⟨rfl,rfl,rfl,Nat.le_refl _,fun _ _ _=>rfl,⟨[],rfl,by simp only[Rd];exact⟨a,0,rfl,.inl ⟨by trivial,by trivial,fun _=>by trivial⟩⟩⟩,⟨rfl,rfl,trivial⟩,by simp,by simp,by simp,by simp,by simp⟩
  ·have hg:=grownCap_ge w (0+n) 0 (ρ.t 25);refine(Any8.slices_Grow_grow L i0 z hi0 hz0 hs0 a 0 0 n [] w (by omega) (by omega) (by have:=Nat.mul_le_mul (show 0+n≤1000000000 by omega) hby;omega) (by omega) (by simp) (fun _=>rfl) (fun a ha j v hv=>by simp at hv)).mono fun e w' hw=> ?_;obtain⟨rfl,rfl⟩:=hw;refine⟨_,[[w.heap.size]],[[],[]],rfl,?_⟩;have hh:∀o:Obj,(w.drew.alloc o).heap=w.heap.push o:=fun _=>rfl;refine⟨rfl,rfl,rfl,by rw[hh];simp,fun k hk _=>by rw[hh,Array.getElem?_push_lt hk];simp[hk],⟨[w.heap.size],rfl,?_⟩,⟨rfl,rfl,trivial⟩,by simp,by simp,by simp,by simp,by simp⟩;simp only[Rd,List.length_nil];refine⟨_,_,rfl,.inr ⟨w.heap.size,0,_,_,_,[],rfl,by rw[hh];exact Array.getElem?_push_size,rfl,Nat.zero_le _,?_,fun _=>⟨by trivial,by trivial⟩,by simp[RdLL]⟩⟩;simp only[Array.size_append,size_zeroCells,hzc,List.size_toArray,List.length_nil];have e:grownCap w (0+n) 0 (ρ.t 25) * i0.size=(0+n - 0) * i0.size+(grownCap w (0+n) 0 (ρ.t 25) - (0+n)) * i0.size:=by rw[←Nat.add_mul];congr 1;omega
   omega
def zjI(P:Program)(t:TypeId)(sz:Nat):Bool:=match P.info? t with
 |some i=>match i.zero with
  |some z=>decide (i.size=sz)&&decide (0 < i.size)&&decide (i.bytes≤65536)&&decide (z.cells.size=i.size)
  |none=>false
 |none=>false
theorem zk3{P:Program}{ρ:Ren}(L:Lays8.n4 P ρ){f:FuncId}(hf:ρ.f 4=f)(hc:callable P f=true){sz:Nat}(h:zjI P (ρ.t 25) sz=true)(n:Nat)(hn:n≤1000000000):Fn P f [⟨.sl sz [],.z⟩,⟨.int .i64 (n:Int),.b⟩] true [.sl sz []]:=by
 unfold zjI at h;split at h
 ·rename_i i hi;split at h
  ·rename_i z hz;simp only[Bool.and_eq_true,decide_eq_true_eq] at h;exact zn2 L hf hc hi hz h.1.1.2 h.1.1.1 h.2 h.1.2 n hn
  ·cases h
 ·cases h
end Go.AW
