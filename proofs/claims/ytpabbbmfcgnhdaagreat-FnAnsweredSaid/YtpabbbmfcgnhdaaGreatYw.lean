/- A short row of flat elements as a row of data. Conditions: each theorem's own. -/
import Derived.Test.YtpabbbmfcgnhdaaGreatYv
set_option linter.unusedVariables false
namespace Go.AW
theorem zdz{α β:Type}{R:α→β→Prop}:∀{as bs:List α} {vs:List β},zl R (as++bs) vs→zl R as (vs.take as.length)∧zl R bs (vs.drop as.length)
 |[],bs,vs,H=>⟨by simp[zl],by simpa using H⟩
 |a::as,bs,[],H=>H.elim
 |a::as,bs,v::vs,H=>by
  obtain⟨h1,h2⟩:=H;obtain⟨h3,h4⟩:=zdz h2;exact⟨⟨h1,h3⟩,h4⟩
theorem zgY{m:M}{h:Hp}:∀{e:List D} {vs:List Value},zl (qE m h) (e.map C.d) vs→e.all D.flat=true→RdL true h e vs []
 |[],[],_,_=>by simp[RdL]
 |[],_::_,H,_=>H.elim
 |x::e,[],H,_=>H.elim
 |x::e,v::vs,H,hf=>by
  obtain⟨⟨h1,bs,h2,_⟩,h3⟩:=H;simp only[List.all_cons,Bool.and_eq_true] at hf;simp only[RdL];refine⟨v,vs,[],[],rfl,rfl,?_,?_,zgY h3 hf.2⟩
  ·cases x<;>first|rfl|(cases hf.1;done)
  ·cases x<;>first|(cases hf.1;done)|(simp only[Rd] at h2 ⊢;exact⟨h2.1,trivial⟩)
theorem zeK{m:M}{h:Hp}{α:Type}{f:α→List D}{sz:Nat}(hs:∀x,(f x).length=sz)(hf:∀x,(f x).all D.flat=true):∀{xs:List α} {vs:List Value},zl (qE m h) ((xs.map f).flatten.map C.d) vs→RdLL true h sz (xs.map f) vs []
 |[],vs,_=>by simp[RdLL]
 |x::xs,vs,H=>by
  simp only[List.map_cons,List.flatten_cons,List.map_append] at H;obtain⟨h1,h2⟩:=zdz H;simp only[List.length_map,hs x] at h1 h2;simp only[List.map_cons,RdLL];exact⟨[],[],rfl,hs x,zgY h1<|hf x,zeK hs hf h2⟩
theorem zdX(n:Nat){α:Type}{f:α→List D}{xs:List α}{sz:Nat}{cs:List C}{l:bg}{h:bh}{g:Nat→V}(hb:LB h n (.vars sz cs))(he:cs=(xs.map f).flatten.map C.d)(hs:∀x,(f x).length=sz)(hf:∀x,(f x).all D.flat=true):Wk (mk l ((n,.data sz (xs.map f) true none)::h) g) (mk l h g):=fun cx a w ⟨m,R⟩=>by
 refine⟨m,R.size,R.defers,R.sl,fun j=> ?_,R.own,R.fr,R.gh⟩;show zT cx m w.heap j (if j=n then _ else lkB h j) _;by_cases e:j=n
 ·subst e;rw[if_pos rfl];have H:=R.hp j;have e:(mk l h g).hp j=some (.vars sz cs):=hb;rw[e] at H;cases hi:m.inf j with
  |none=>rw[hi] at H;exact H.elim
  |some fi=>
   rw[hi] at H;unfold zT at H ⊢;simp only at H ⊢;cases hbk:fi.blk with
   |none=>
    rw[hbk] at H;obtain⟨h1,s',o',cp',he,h2,h3⟩:=H;cases he
   |some b=>
    rw[hbk] at H;obtain⟨h1,h2,cells,T,h3,h4,h5,h6⟩:=H;subst he;exact⟨h1,h2,cells,T,h3,h4,h5,by simp,[],zeK hs hf h6,fun _=>⟨List.nodup_nil,by simp⟩,fun h=>by cases h⟩
 ·rw[if_neg e];exact R.hp j
end Go.AW
