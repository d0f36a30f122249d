/- The plain data that values read as, and the reading itself: lemmas of an own program logic; nothing is claimed here. Conditions: none. -/
import Derived.Orders
import Derived.Tactics
import Derived.Laws.World
import Derived.Laws.CopyRow
import Derived.Laws.Rows
import Derived.KernelRfl
set_option linter.unusedVariables false
namespace Go.AW
theorem O{α:Sort _}{a:α}:a=a:=rfl
theorem obi{α β:Type}{x:Option α}{f:α→Option β}{b:β}:x.bind f=some b↔∃a,x=some a∧f a=some b:=Option.bind_eq_some_iff
theorem omi{α β:Type}{x:Option α}{f:α→β}{b:β}:x.map f=some b↔∃a,x=some a∧f a=b:=Option.map_eq_some_iff
inductive D where
 |int (k:IntKind) (n:Int)
 |bool (b:Bool)
 |str (s:ByteArray)
 |sl (sz:Nat) (xs:List (List D))
 |agg (cs:List D)
 |ptr (cs:List D)
 |fn (f:FuncId) (caps:List D)
 |pin (v:Value)
 |both (v:Value) (x:D)
abbrev Hp:=Array Obj
def D.isCell:D→Bool
 | .agg _=>false
 |_=>true
mutual
def Rd(o:Bool)(h:Hp):D→Value→List Nat→Prop
  | .int k n,v,bs=>v= .int k n∧bs=[]
  | .bool b,v,bs=>v= .bool b∧bs=[]
  | .str s,v,bs=>v= .string s∧bs=[]
  | .sl sz xs,v,bs=>∃a cap,v= .slice a xs.length cap∧
      ((xs=[]∧bs=[]∧(o=true→cap=0))∨
       ∃b off cells T fz bs',a=some ⟨b,off,none⟩∧h[b]? =some (.cells cells T fz)∧bs=b::bs'∧xs.length≤cap∧off+cap * sz≤cells.size∧
         (o=true→off=0∧fz=(0,0))∧RdLL o h sz xs (cells.toList.drop off) bs')
  | .agg cs,v,bs=>∃vs,v= .agg vs∧RdL o h cs vs.toList bs
  | .ptr cs,v,bs=>∃b off cells T fz bs',v= .pointer (some ⟨b,off,none⟩)∧h[b]? =some (.cells cells T fz)∧bs=b::bs'∧
       (o=true→off=0∧fz=(0,0)∧cells.size=cs.length)∧RdL o h cs ((cells.toList.drop off).take cs.length) bs'
  | .fn f ds,v,bs=>∃vs,v= .func (.func f) #[] vs∧RdL o h ds vs.toList bs
  | .pin v,u,bs=>(v=u∧∃a n c,u= .slice a n c)∧bs=[]
  | .both v x,u,bs=>(v=u∧v.oneCell'=true)∧Rd o h x u bs
def RdL(o:Bool)(h:Hp):List D→List Value→List Nat→Prop
 |[],vs,bs=>vs=[]∧bs=[]
 |d::ds,vs,bs=>∃v vs' b1 b2,vs=v::vs'∧bs=b1++b2∧d.isCell=true∧Rd o h d v b1∧RdL o h ds vs' b2
def RdLL(o:Bool)(h:Hp)(sz:Nat):List (List D)→List Value→List Nat→Prop
 |[],_,bs=>bs=[]
 |e::es,vs,bs=>∃b1 b2,bs=b1++b2∧e.length=sz∧RdL o h e (vs.take sz) b1∧RdLL o h sz es (vs.drop sz) b2
end
mutual
theorem Rd.congr{o:Bool}{h h':Hp}:∀(x:D) (v:Value) (bs:List Nat),(∀b∈bs,h'[b]? =h[b]?)→Rd o h x v bs→Rd o h' x v bs
 | .int _ _,_,_,_,H=>by simpa[Rd] using H
 | .bool _,_,_,_,H=>by simpa[Rd] using H
 | .str _,_,_,_,H=>by simpa[Rd] using H
 | .sl sz xs,v,bs,hb,H=>by
  simp only[Rd] at H ⊢;obtain⟨a,cap,hv,H⟩:=H;refine⟨a,cap,hv,?_⟩;rcases H with H|⟨b,off,cells,T,fz,bs',ha,hh,rfl,hl,hc,ho,hr⟩
  ·exact .inl H
  ·exact .inr ⟨b,off,cells,T,fz,bs',ha,(hb b (by simp)).trans hh,rfl,hl,hc,ho,RdLL.congr sz xs _ bs' (fun c hc=>hb c (by simp[hc])) hr⟩
 | .agg cs,v,bs,hb,H=>by
  simp only[Rd] at H ⊢;obtain⟨vs,hv,H⟩:=H;exact⟨vs,hv,RdL.congr cs _ bs hb H⟩
 | .ptr cs,v,bs,hb,H=>by
  simp only[Rd] at H ⊢;obtain⟨b,off,cells,T,fz,bs',hv,hh,rfl,ho,hr⟩:=H;exact⟨b,off,cells,T,fz,bs',hv,(hb b (by simp)).trans hh,rfl,ho,RdL.congr cs _ bs' (fun c hc=>hb c (by simp[hc])) hr⟩
 | .fn f cs,v,bs,hb,H=>by
  simp only[Rd] at H ⊢;obtain⟨vs,hv,H⟩:=H;exact⟨vs,hv,RdL.congr cs _ bs hb H⟩
 | .pin _,_,_,_,H=>by simpa[Rd] using H
 | .both _ x,v,bs,hb,H=>by
  simp only[Rd] at H ⊢;exact⟨H.1,Rd.congr x v bs hb H.2⟩
theorem RdL.congr{o:Bool}{h h':Hp}:∀(xs:List D) (vs:List Value) (bs:List Nat),(∀b∈bs,h'[b]? =h[b]?)→RdL o h xs vs bs→RdL o h' xs vs bs
 |[],_,_,_,H=>by simpa[RdL] using H
 |d::ds,vs,bs,hb,H=>by
  simp only[RdL] at H ⊢;obtain⟨v,vs',b1,b2,rfl,rfl,hcell,h1,h2⟩:=H;exact⟨v,vs',b1,b2,rfl,rfl,hcell,Rd.congr d v b1 (fun b hm=>hb b (by simp[hm])) h1,RdL.congr ds vs' b2 (fun b hm=>hb b (by simp[hm])) h2⟩
theorem RdLL.congr{o:Bool}{h h':Hp}(sz:Nat):∀(xs:List (List D)) (vs:List Value) (bs:List Nat),(∀b∈bs,h'[b]? =h[b]?)→RdLL o h sz xs vs bs→RdLL o h' sz xs vs bs
 |[],_,_,_,H=>by simpa[RdLL] using H
 |e::es,vs,bs,hb,H=>by
  simp only[RdLL] at H ⊢;obtain⟨b1,b2,rfl,hl,h1,h2⟩:=H;exact⟨b1,b2,rfl,hl,RdL.congr e _ b1 (fun b hm=>hb b (by simp[hm])) h1,RdLL.congr sz es _ b2 (fun b hm=>hb b (by simp[hm])) h2⟩
end
mutual
theorem Rd.weak{h:Hp}:∀(x:D) (v:Value) (bs:List Nat),Rd true h x v bs→Rd false h x v bs
 | .int _ _,_,_,H=>by simpa[Rd] using H
 | .bool _,_,_,H=>by simpa[Rd] using H
 | .str _,_,_,H=>by simpa[Rd] using H
 | .sl sz xs,v,bs,H=>by
  simp only[Rd] at H ⊢;obtain⟨a,cap,hv,H⟩:=H;refine⟨a,cap,hv,?_⟩;rcases H with⟨h1,h2,_⟩|⟨b,off,cells,T,fz,bs',ha,hh,rfl,hl,hc,ho,hr⟩
  ·exact .inl ⟨h1,h2,fun h=>by simp at h⟩
  ·exact .inr ⟨b,off,cells,T,fz,bs',ha,hh,rfl,hl,hc,fun h=>by simp at h,RdLL.weak sz xs _ bs' hr⟩
 | .agg cs,v,bs,H=>by
  simp only[Rd] at H ⊢;obtain⟨vs,hv,H⟩:=H;exact⟨vs,hv,RdL.weak cs _ bs H⟩
 | .ptr cs,v,bs,H=>by
  simp only[Rd] at H ⊢;obtain⟨b,off,cells,T,fz,bs',hv,hh,rfl,ho,hr⟩:=H;exact⟨b,off,cells,T,fz,bs',hv,hh,rfl,fun h=>by simp at h,RdL.weak cs _ bs' hr⟩
 | .fn f cs,v,bs,H=>by
  simp only[Rd] at H ⊢;obtain⟨vs,hv,H⟩:=H;exact⟨vs,hv,RdL.weak cs _ bs H⟩
 | .pin _,_,_,H=>by simpa[Rd] using H
 | .both _ x,v,bs,H=>by
  simp only[Rd] at H ⊢;exact⟨H.1,Rd.weak x v bs H.2⟩
theorem RdL.weak{h:Hp}:∀(xs:List D) (vs:List Value) (bs:List Nat),RdL true h xs vs bs→RdL false h xs vs bs
 |[],_,_,H=>by simpa[RdL] using H
 |d::ds,vs,bs,H=>by
  simp only[RdL] at H ⊢;obtain⟨v,vs',b1,b2,rfl,rfl,hcell,h1,h2⟩:=H;exact⟨v,vs',b1,b2,rfl,rfl,hcell,Rd.weak d v b1 h1,RdL.weak ds vs' b2 h2⟩
theorem RdLL.weak{h:Hp}(sz:Nat):∀(xs:List (List D)) (vs:List Value) (bs:List Nat),RdLL true h sz xs vs bs→RdLL false h sz xs vs bs
 |[],_,_,H=>by simpa[RdLL] using H
 |e::es,vs,bs,H=>by
  simp only[RdLL] at H ⊢;obtain⟨b1,b2,rfl,hl,h1,h2⟩:=H;exact⟨b1,b2,rfl,hl,RdL.weak e _ b1 h1,RdLL.weak sz es _ b2 h2⟩
end
mutual
theorem Rd.there{o:Bool}{h:Hp}:∀(x:D) (v:Value) (bs:List Nat),Rd o h x v bs→∀b∈bs,∃c T f,h[b]? =some (.cells c T f)
 | .int _ _,_,_,H=>by simp only[Rd] at H;simp[H.2]
 | .bool _,_,_,H=>by simp only[Rd] at H;simp[H.2]
 | .str _,_,_,H=>by simp only[Rd] at H;simp[H.2]
 | .sl sz xs,v,bs,H=>by
  simp only[Rd] at H;obtain⟨a,cap,hv,H⟩:=H;rcases H with⟨h1,h2,_⟩|⟨b,off,cells,T,fz,bs',ha,hh,rfl,hl,hc,ho,hr⟩
  ·simp[h2]
  ·intro c hm;rcases List.mem_cons.1 hm with rfl|hm
   ·exact⟨_,_,_,hh⟩
   ·exact RdLL.there sz xs _ bs' hr c hm
 | .agg cs,v,bs,H=>by
  simp only[Rd] at H;obtain⟨vs,hv,H⟩:=H;exact RdL.there cs _ bs H
 | .ptr cs,v,bs,H=>by
  simp only[Rd] at H;obtain⟨b,off,cells,T,fz,bs',hv,hh,rfl,ho,hr⟩:=H;intro c hm;rcases List.mem_cons.1 hm with rfl|hm
  ·exact⟨_,_,_,hh⟩
  ·exact RdL.there cs _ bs' hr c hm
 | .fn f cs,v,bs,H=>by
  simp only[Rd] at H;obtain⟨vs,hv,H⟩:=H;exact RdL.there cs _ bs H
 | .pin _,_,_,H=>by simp only[Rd] at H;simp[H.2]
 | .both _ x,v,bs,H=>by
  simp only[Rd] at H;exact Rd.there x v bs H.2
theorem RdL.there{o:Bool}{h:Hp}:∀(xs:List D) (vs:List Value) (bs:List Nat),RdL o h xs vs bs→∀b∈bs,∃c T f,h[b]? =some (.cells c T f)
 |[],_,_,H=>by simp only[RdL] at H;simp[H.2]
 |d::ds,vs,bs,H=>by
  simp only[RdL] at H;obtain⟨v,vs',b1,b2,rfl,rfl,hcell,h1,h2⟩:=H;intro b hm;rcases List.mem_append.1 hm with hm|hm
  ·exact Rd.there d v b1 h1 b hm
  ·exact RdL.there ds vs' b2 h2 b hm
theorem RdLL.there{o:Bool}{h:Hp}(sz:Nat):∀(xs:List (List D)) (vs:List Value) (bs:List Nat),RdLL o h sz xs vs bs→∀b∈bs,∃c T f,h[b]? =some (.cells c T f)
 |[],_,_,H=>by simp only[RdLL] at H;simp[H]
 |e::es,vs,bs,H=>by
  simp only[RdLL] at H;obtain⟨b1,b2,rfl,hl,h1,h2⟩:=H;intro b hm;rcases List.mem_append.1 hm with hm|hm
  ·exact RdL.there e _ b1 h1 b hm
  ·exact RdLL.there sz es _ b2 h2 b hm
end
theorem zH{h:Hp}{b:Nat}{x:Obj}(H:h[b]? =some x):b < h.size:=(Array.getElem?_eq_some_iff.1 H).1
theorem RdL.length{o:Bool}{h:Hp}:∀{xs:List D} {vs:List Value} {bs:List Nat},RdL o h xs vs bs→vs.length=xs.length
 |[],_,_,H=>by simp only[RdL] at H;simp[H.1]
 |_::ds,vs,bs,H=>by
  simp only[RdL] at H;obtain⟨v,vs',b1,b2,rfl,rfl,hcell,h1,h2⟩:=H;simp[RdL.length h2]
theorem RdL.append{o:Bool}{h:Hp}:∀{xs ys:List D} {us vs:List Value} {bs cs:List Nat},RdL o h xs us bs→RdL o h ys vs cs→RdL o h (xs++ys) (us++vs) (bs++cs)
 |[],_,_,_,_,_,H,K=>by simp only[RdL] at H;obtain⟨rfl,rfl⟩:=H;simpa using K
 |_::ds,ys,us,vs,bs,cs,H,K=>by
  simp only[RdL] at H;obtain⟨v,vs',b1,b2,rfl,rfl,hcell,h1,h2⟩:=H;simp only[List.cons_append,RdL];exact⟨v,vs'++vs,b1,b2++cs,by simp,by simp,hcell,h1,RdL.append h2 K⟩
theorem RdL.at{o:Bool}{h:Hp}:∀{xs:List D} {vs:List Value} {bs:List Nat},RdL o h xs vs bs→∀{i:Nat} {x:D},xs[i]? =some x→
  ∃v b,vs[i]? =some v∧x.isCell=true∧Rd o h x v b∧∀c∈b,c∈bs
 |[],_,_,_,i,x,hx=>by simp at hx
 |d::ds,vs,bs,H,i,x,hx=>by
  simp only[RdL] at H;obtain⟨v,vs',b1,b2,rfl,rfl,hcell,h1,h2⟩:=H;cases i with
  |zero=>simp at hx;subst hx;exact⟨v,b1,by simp,hcell,h1,fun c hc=>by simp[hc]⟩
  |succ i=>
   simp at hx;obtain⟨u,b,hu,hcl,hr,hb⟩:=RdL.at h2 hx;exact⟨u,b,by simpa using hu,hcl,hr,fun c hc=>by simp[hb c hc]⟩
theorem RdL.split{o:Bool}{h:Hp}:∀{xs:List D} {vs:List Value} {bs:List Nat},RdL o h xs vs bs→∀(n:Nat),
  ∃b1 b2,bs=b1++b2∧RdL o h (xs.take n) (vs.take n) b1∧RdL o h (xs.drop n) (vs.drop n) b2
 |[],vs,bs,H,n=>by simp only[RdL] at H;obtain⟨rfl,rfl⟩:=H;exact⟨[],[],rfl,by simp[RdL],by simp[RdL]⟩
 |d::ds,vs,bs,H,0=>⟨[],bs,rfl,by simp[RdL],by simpa using H⟩
 |d::ds,vs,bs,H,n+1=>by
  simp only[RdL] at H;obtain⟨v,vs',b1,b2,rfl,rfl,hcell,h1,h2⟩:=H;obtain⟨c1,c2,rfl,k1,k2⟩:=RdL.split h2 n;refine⟨b1++c1,c2,by simp,?_,by simpa using k2⟩;simp only[List.take_succ_cons,RdL];exact⟨v,_,b1,c1,rfl,rfl,hcell,h1,k1⟩
theorem RdL.extract{o:Bool}{h:Hp}{xs:List D}{vs:List Value}{bs:List Nat}(H:RdL o h xs vs bs)(i n:Nat):
  ∃b,RdL o h ((xs.drop i).take n) ((vs.drop i).take n) b∧b.Sublist bs:=by
 obtain⟨b1,b2,rfl,_,h2⟩:=H.split i;obtain⟨c1,c2,rfl,h3,_⟩:=h2.split n;exact⟨c1,h3,((List.sublist_append_left c1 c2).trans<|List.sublist_append_right b1 _)⟩
theorem RdLL.split{o:Bool}{h:Hp}{sz:Nat}:∀{xs:List (List D)} {vs:List Value} {bs:List Nat},RdLL o h sz xs vs bs→∀(n:Nat),
  ∃b1 b2,bs=b1++b2∧RdLL o h sz (xs.take n) vs b1∧RdLL o h sz (xs.drop n) (vs.drop (n * sz)) b2
 |[],vs,bs,H,n=>by simp only[RdLL] at H;subst H;exact⟨[],[],rfl,by simp[RdLL],by simp[RdLL]⟩
 |d::ds,vs,bs,H,0=>⟨[],bs,rfl,by simp[RdLL],by simpa using H⟩
 |d::ds,vs,bs,H,n+1=>by
  simp only[RdLL] at H;obtain⟨b1,b2,rfl,hl,h1,h2⟩:=H;obtain⟨c1,c2,rfl,k1,k2⟩:=RdLL.split h2 n;refine⟨b1++c1,c2,by simp,?_,?_⟩
  ·simp only[List.take_succ_cons,RdLL];exact⟨b1,c1,rfl,hl,h1,k1⟩
  ·rw[List.drop_drop] at k2;simp only[List.drop_succ_cons]
   rwa [show(n+1) * sz=sz+n * sz by rw[Nat.succ_mul,Nat.add_comm]]
theorem RdLL.at{o:Bool}{h:Hp}{sz:Nat}{xs:List (List D)}{vs:List Value}{bs:List Nat}(H:RdLL o h sz xs vs bs){i:Nat}{e:List D}(hx:xs[i]? =some e):
  e.length=sz∧∃b,RdL o h e ((vs.drop (i * sz)).take sz) b∧b.Sublist bs:=by
 obtain⟨b1,b2,rfl,_,h2⟩:=H.split i;have hd:xs.drop i=e::xs.drop (i+1):=by
  obtain⟨hi,he⟩:=List.getElem?_eq_some_iff.1 hx;rw[List.drop_eq_getElem_cons hi,he]
 rw[hd] at h2;simp only[RdLL] at h2;obtain⟨c1,c2,rfl,hl,h3,_⟩:=h2;exact⟨hl,c1,h3,(List.sublist_append_left c1 c2).trans<|List.sublist_append_right b1 _⟩
theorem RdLL.fits{o:Bool}{h:Hp}{sz:Nat}:∀{xs:List (List D)} {vs:List Value} {bs:List Nat},RdLL o h sz xs vs bs→xs.length * sz≤vs.length
 |[],_,_,_=>by simp
 |d::ds,vs,bs,H=>by
  simp only[RdLL] at H;obtain⟨b1,b2,rfl,hl,h1,h2⟩:=H;have a:=RdL.length h1;have b:=RdLL.fits h2;simp only[List.length_take,List.length_drop,List.length_cons] at a b ⊢;rw[Nat.succ_mul];omega
theorem qu{o:Bool}{h:Hp}{sz:Nat}:∀{xs:List (List D)} {us vs:List Value} {bs:List Nat},(∀i,i < xs.length * sz→us[i]? =vs[i]?)→RdLL o h sz xs us bs→RdLL o h sz xs vs bs
 |[],_,_,_,_,H=>by simpa[RdLL] using H
 |d::ds,us,vs,bs,hu,H=>by
  have hf:=RdLL.fits H;simp only[RdLL] at H ⊢;obtain⟨b1,b2,rfl,hl,h1,h2⟩:=H;have he:(d::ds).length * sz=sz+ds.length * sz:=by simp[Nat.succ_mul,Nat.add_comm]
  refine⟨b1,b2,rfl,hl,?_,qu (fun i hi=> ?_) h2⟩
  ·have e:vs.take sz=us.take sz:=by
    apply List.ext_getElem?;intro i;simp only[List.getElem?_take];split
    ·rename_i hlt;exact(hu i (by rw[he];omega)).symm
    ·rfl
   rw[e];exact h1
  ·simp only[List.getElem?_drop];exact hu _ (by rw[he];omega)
theorem RdLL.append{o:Bool}{h:Hp}{sz:Nat}:∀{xs ys:List (List D)} {vs:List Value} {bs cs:List Nat},RdLL o h sz xs vs bs→RdLL o h sz ys (vs.drop (xs.length * sz)) cs→RdLL o h sz (xs++ys) vs (bs++cs)
 |[],_,_,_,_,H,K=>by simp only[RdLL] at H;subst H;simpa using K
 |d::ds,ys,vs,bs,cs,H,K=>by
  simp only[RdLL] at H;obtain⟨b1,b2,rfl,hl,h1,h2⟩:=H;simp only[List.cons_append,RdLL];refine⟨b1,b2++cs,by simp,hl,h1,RdLL.append h2 ?_⟩;rw[List.drop_drop]
  rwa [List.length_cons,Nat.succ_mul,Nat.add_comm] at K
theorem j8{o:Bool}{h:Hp}:∀{x:D} {v:Value} {bs:List Nat},x.isCell=true→Rd o h x v bs→v.oneCell'=true
 | .agg _,_,_,hx,_=>by simp[D.isCell] at hx
 | .sl _ _,_,_,_,H=>by simp only[Rd] at H;obtain⟨a,cap,rfl,_⟩:=H;rfl
 | .ptr _,_,_,_,H=>by simp only[Rd] at H;obtain⟨b,off,cells,T,fz,bs',rfl,_⟩:=H;rfl
 | .fn _ _,_,_,_,H=>by simp only[Rd] at H;obtain⟨vs,rfl,_⟩:=H;rfl
 | .int _ _,_,_,_,H=>by simp only[Rd] at H;rw[H.1];rfl
 | .bool _,_,_,_,H=>by simp only[Rd] at H;rw[H.1];rfl
 | .str _,_,_,_,H=>by simp only[Rd] at H;rw[H.1];rfl
 | .pin _,_,_,_,H=>by simp only[Rd] at H;obtain⟨a,n,c,rfl⟩:=H.1.2;rfl
 | .both _ _,_,_,_,H=>by simp only[Rd] at H;rw[←H.1.1];exact H.1.2
end Go.AW
