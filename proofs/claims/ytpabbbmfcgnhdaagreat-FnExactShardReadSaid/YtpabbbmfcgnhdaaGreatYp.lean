/- A slice that lies in a variable and in a row of its own as well: the row's cell is held to be that value, so that a store through it is a store to the row. Lemmas. Conditions: none. -/
import Derived.Test.YtpabbbmfcgnhdaaGreatYk
set_option linter.unusedVariables false
namespace Go.AW
theorem zQ.swapB{cx:Cx}{m:M}{s:St}{a:Act}{w:World}(R:zQ cx m s a w){n:Nat}{k k':Blk}(hk:s.hp n=some k)(H:∀f,m.inf n=some f→qa cx m w.heap n (some k) (some f)→qa cx m w.heap n (some k') (some f)):zQ cx m (s.blk n k') a w:=by
 refine⟨R.size,R.defers,R.sl,fun j=> ?_,R.own,R.fr,R.gh⟩;show qa cx m w.heap j (if j=n then some k' else s.hp j) _;by_cases e:j=n
 ·subst e;rw[if_pos rfl];have A:=R.hp j;rw[hk] at A;cases hi:m.inf j with
  |none=>rw[hi] at A;exact A.elim
  |some f=>rw[hi] at A;exact H f hi A
 ·rw[if_neg e];exact R.hp j
section
variable {P:Program} {nn:Nat} {L:List RO} {Q:St→Prop} {l l' gl gl':bH} {h h':bI} {g:Nat→V}
theorem zK.swap{α β:Type}{R:α→β→Prop}{c':α}:∀{as:List α} {bs:List β} {i:Nat} {c:α},zK R as bs→as[i]? =some c→(∀b,R c b→R c' b)→zK R (as.set i c') bs
 |[],_,_,_,_,h,_=>by simp at h
 |a::as,[],_,_,H,_,_=>H.elim
 |a::as,b::bs,0,c,H,h,k=>by
  simp only[List.getElem?_cons_zero,Option.some.injEq] at h;subst h;exact⟨k _ H.1,H.2⟩
 |a::as,b::bs,i+1,c,H,h,k=>⟨H.1,zK.swap H.2 (by simpa using h) k⟩
theorem qa.var{cx:Cx}{m:M}{hp:Hp}{n sz:Nat}{f:NI}{cs cs':List C}(A:qa cx m hp n (some<|.vars sz cs) (some f))(H:∀L,zK (jK m hp) cs L→zK (jK m hp) cs' L):qa cx m hp n (some<|.vars sz cs') (some f):=by
 unfold qa at A ⊢;cases hb:f.blk with
 |none=>
  simp only[hb] at A;obtain⟨_,_,_,_,e0,_⟩:=A;cases e0
 |some b=>
  simp only[hb] at A ⊢;obtain⟨g1,g2,cells,T,g4,g5,g6,g7⟩:=A;exact⟨g1,g2,cells,T,g4,g5,g6,H _ g7⟩
end
section
variable {P:Program} {nn:Nat} {L:List RO} {Q:St→Prop} {l l' gl gl':bH} {h h':bI}
end
section
variable {P:Program} {nn:Nat} {L:List RO} {Q:St→Prop} {l l' gl gl':bH} {h h':bI} {g:Nat→V} {d:Nat} {x y:Opd} {s t:St}
end
end Go.AW
