/- Code: what is asked of a state so that the code ends as wanted; the rules. Lemmas. Conditions: none. -/
import Derived.Test.YtpabbbmfcgnhdaaGreatVb
import Derived.Deep.LoopGhost
set_option linter.unusedVariables false
namespace Go.AW
inductive IC where
 |skip
 |reg (L:List RO)
 |regd (L:List RO)
 |regl (L:List RO)
 |regt (L M:List RO)
 |regp (L M N:List RO)
 |seq (a b:IC)
 |cond (c:Opd) (x y:IC)
 |block (id:Nat) (c:IC)
 |loop (c:IC)
 |exit (id:Nat)
 |ret
abbrev Qy:=List (List (Nat×List Nat))
def Xl:List GOp→List (Nat×List Nat)→List RO
 |g::gs,h::hs=>⟨g,h.1,h.2⟩::Xl gs hs
 |_,_=>[]
theorem zfu:∀{gs:List GOp} {hs:List (Nat×List Nat)},gs.length≤(Xl gs hs).length→(Xl gs hs).map (·.g)=gs
 |[],_,_=>by unfold Xl;rfl
 |g::gs,[],h=>by simp[Xl] at h
 |g::gs,h::hs,hl=>by
  simp only[Xl,List.map_cons];rw[zfu (by simpa[Xl] using hl)]
def Xk(L:List RO):Nat:=(L.takeWhile fun r=>!r.A.contains 2000005).length
def Zw(k:Nat)(L:List RO):List Nat:=(List.range L.length).filter fun i=>match L[i]? with
 |some r=>r.A.contains k
 |none=>false
def zad(ops:Array Oper):List Nat→Array Bool→Option (Array Bool)
 |[],l=>some l
 |i::is,l=>if Region.free .any ops l i&&(Region.ready .any ops l).contains i then zad ops is (l.setIfInBounds i true) else none
def Xj(ops:Array Oper):List Nat→Array Bool→Option (Array Bool)
 |[],l=>some l
 |i::is,l=>if Region.ready .any ops l == [i] then Xj ops is (l.setIfInBounds i true) else none
def zd9:IOp→Bool
 | .mov _ _=>true
 | .ext _ _ _=>true
 | .bin _ _ _ _=>true
 | .inv _ _=>true
 | .faddr _ _ _=>true
 | .build _ _ _=>true
 |_=>false
def zaJ(L:List RO)(i:Nat):Bool:=match L[i]? with
 |some r=>r.g.g.isNone&&zd9 r.g.o
 |none=>false
def zgI(ops:Array Oper)(L:List RO):List Nat→Array Bool→Option (Array Bool)
 |[],l=>some l
 |i::is,l=>if Region.ready .any ops l == [i]||(zaJ L i&&Region.free .any ops l i&&(Region.ready .any ops l).contains i) then zgI ops L is (l.setIfInBounds i true) else none
def zj6(ops:Array Oper)(L:List RO):Bool:=
 Region.noSelect ops&&(ops.size == L.length)&&((ops.toList.zip L).zipIdx.all fun((o,r),q)=>r.dep == zcJ L o&&decide (r.dep < 2 ^ q))&&
 ((Zw 2000009 L).all fun j=>zaJ L j||(Zw 2000007 L).all fun i=>(match L[i]? with|some r=>!r.g.o.isLoad|none=>false)||match L[j]? with|some r=>r.dep.testBit i|none=>false)&&
 ((Zw 2000007 L).length+(Zw 2000008 L).length+(Zw 2000009 L).length == ops.size)&&
 (match ((zad ops (Zw 2000007 L)<|Array.replicate ops.size false).bind<|Xj ops<|Zw 2000008 L).bind (zgI ops L<|Zw 2000009 L) with
  |some l=>Region.ready .any ops l == []
  |none=>false)
def zgC(gs:List GOp)(is:List Nat):List GOp:=is.filterMap fun i=>gs[i]?
def zg7(P:Program)(ops:List Oper)(gs:List GOp)(L:List RO)(r:Qy):Option (IC×Qy):=
 if zj6 ops.toArray L&&decide (gs.length≤L.length)&&P.follows .mixedOrders then
  some (.regp ((zgC gs<|Zw 2000007 L).map fun g=>⟨g,0,[]⟩) ((zgC gs<|Zw 2000008 L).map fun g=>⟨g,0,[]⟩) ((zgC gs<|Zw 2000009 L).map fun g=>⟨g,0,[]⟩),r) else
 if ziq ops L (Xk L) (Xk L == L.length)&&decide (gs.length≤L.length)&&P.follows .mixedOrders then
  some (if Xk L == L.length then .regl L else .regt (L.take<|Xk L) ((L.drop<|Xk L).map fun x=>⟨x.g,0,[]⟩),r) else none
theorem zfR{P:Program}{ops:List Oper}{gs:List GOp}{L:List RO}{r h':Qy}{c:IC}(H:zg7 P ops gs L r=some (c,h')):(∃L,c= .regl L)∨(∃L M,c= .regt L M)∨∃L M N,c= .regp L M N:=by
 unfold zg7 at H;split at H
 ·cases H;exact .inr (.inr ⟨_,_,_,rfl⟩)
 split at H
 ·cases H;split
  ·exact .inl ⟨_,rfl⟩
  ·exact .inr (.inl ⟨_,_,rfl⟩)
 ·cases H
def qI(P:Program)(n:Nat):Code→Qy→Option (IC×Qy)
 | .skip,h=>some (.skip,h)
 | .region _ ops draw,h=>(ops.toList.mapM<|toG P n ops).bind fun gs=>
   if draw then match h with
    |hs::r=>if zee ops.toList (Xl gs hs)&&decide (gs.length≤(Xl gs hs).length)&&P.follows .mixedOrders&&(Xk (Xl gs hs) == (Xl gs hs).length) then some (.regd<|Xl gs hs,r) else zg7 P ops.toList gs (Xl gs hs) r
    |[]=>none
   else some (.reg (gs.map fun g=>⟨g,0,[]⟩),h)
 | .seq a b,h=>(qI P n a h).bind fun p=>(qI P n b p.2).map fun q=>(.seq p.1 q.1,q.2)
 | .cond c x y,h=>(zJ c).bind fun c=>(qI P n x h).bind fun p=>(qI P n y p.2).map fun q=>(.cond c p.1 q.1,q.2)
 | .block id c,h=>(qI P n c h).map fun p=>(.block id p.1,p.2)
 | .loop c,h=>(qI P n c h).map fun p=>(.loop p.1,p.2)
 | .exit id,h=>some (.exit id,h)
 | .ret,h=>some (.ret,h)
 | .label _,h=>some (.skip,h)
 |_,_=>none
def AW0(P:Program)(n:Nat)(c:IC)(Q:Exit→St→Prop)(s:St):Prop:=
 ∀(cx:Cx) (code:Code) (h h':Qy) (a:Act) (w:World),cx.P=P→cx.n=n→qI P n code h=some (c,h')→Rel cx s a w→code.wp P (fun e a' w'=>∃s',Q e s'∧Rel cx s' a' w') a w
def Wk(t s:St):Prop:=∀(cx:Cx) (a:Act) (w:World),Rel cx s a w→Rel cx t a w
theorem Wk.rfl(s:St):Wk s s:=fun _ _ _ h=>h
theorem Wk.trans{r s t:St}(h:Wk r s)(h':Wk s t):Wk r t:=fun cx a w H=>h cx a w (h' cx a w H)
variable {P:Program} {n:Nat} {Q Q':Exit→St→Prop} {s t:St}
theorem AW0.mono{c:IC}(h:AW0 P n c Q s)(hq:∀e s',Q e s'→Q' e s'):AW0 P n c Q' s:=fun cx code hh hh' a w hP hn ht R=>
 wp_mono (h cx code hh hh' a w hP hn ht R) fun e a w ⟨s',q,r⟩=>⟨s',hq e s' q,r⟩
theorem AW0.weaken{c:IC}(hw:Wk t s)(h:AW0 P n c Q t):AW0 P n c Q s:=fun cx code hh hh' a w hP hn ht R=>h cx code hh hh' a w hP hn ht (hw cx a w R)
theorem yF{id:Nat}{ops:Array Oper}{draw:Bool}{h h':Qy}{c:IC}(H:qI P n (.region id ops draw) h=some (c,h')):(∃L,c= .reg L)∨(∃L,c= .regd L)∨(∃L,c= .regl L)∨(∃L M,c= .regt L M)∨∃L M N,c= .regp L M N:=by
 simp only[qI,obi] at H;obtain⟨gs',hg,H⟩:=H;split at H
 ·split at H
  ·split at H
   ·cases H;exact .inr (.inl ⟨_,rfl⟩)
   ·exact .inr (.inr<|zfR H)
  ·cases H
 ·cases H;exact .inl ⟨_,rfl⟩
theorem ziz{code:Code}{h h':Qy}(H:qI P n code h=some (.skip,h')):code= .skip∨∃l,code= .label l:=by
 cases code with
 |skip=>exact .inl rfl
 |label l=>exact .inr ⟨l,rfl⟩
 |region id ops draw=>rcases yF H with⟨_,h⟩|⟨_,h⟩|⟨_,h⟩|⟨_,_,h⟩|⟨_,_,_,h⟩<;>cases h
 |seq a b=>simp only[qI,obi,omi] at H;obtain⟨_,_,_,_,H⟩:=H;cases H
 |cond c x y=>simp only[qI,obi,omi] at H;obtain⟨_,_,_,_,_,_,H⟩:=H;cases H
 |block id c=>simp only[qI,omi] at H;obtain⟨_,_,H⟩:=H;cases H
 |loop c=>simp only[qI,omi] at H;obtain⟨_,_,H⟩:=H;cases H
 |exit id=>cases H
 |ret=>cases H
 |_=>cases H
theorem zgE{code:Code}{L:List RO}{h h':Qy}(H:qI P n code h=some (.reg L,h')):∃id ops gs,code= .region id ops false∧ops.toList.mapM (toG P n ops)=some gs∧L=gs.map fun g=>⟨g,0,[]⟩:=by
 cases code with
 |region id ops draw=>
  simp only[qI,obi] at H;obtain⟨gs',hg,H⟩:=H;split at H
  ·split at H
   ·split at H
    ·cases H
    ·rcases zfR H with⟨_,h⟩|⟨_,_,h⟩|⟨_,_,_,h⟩<;>cases h
   ·cases H
  ·rename_i hd;cases H;exact⟨id,ops,gs',by simp at hd;rw[hd],hg,_root_.rfl⟩
 |seq a b=>simp only[qI,obi,omi] at H;obtain⟨_,_,_,_,H⟩:=H;cases H
 |cond c x y=>simp only[qI,obi,omi] at H;obtain⟨_,_,_,_,_,_,H⟩:=H;cases H
 |block id c=>simp only[qI,omi] at H;obtain⟨_,_,H⟩:=H;cases H
 |loop c=>simp only[qI,omi] at H;obtain⟨_,_,H⟩:=H;cases H
 |_=>cases H
theorem ziY{code:Code}{L:List RO}{h h':Qy}(H:qI P n code h=some (.regd L,h')):
  ∃id ops,code= .region id ops true∧ops.toList.mapM (toG P n ops)=some (L.map (·.g))∧zee ops.toList L=true∧P.follows .mixedOrders=true:=by
 cases code with
 |region id ops draw=>
  simp only[qI,obi] at H;obtain⟨gs',hg,H⟩:=H;split at H
  ·rename_i hd;split at H
   ·split at H
    ·rename_i hs r hc;cases H;simp only[Bool.and_eq_true,decide_eq_true_eq] at hc;refine⟨id,ops,by rw[hd],?_,hc.1.1.1,hc.1.2⟩;rw[zfu hc.1.1.2];exact hg
    ·rcases zfR H with⟨_,h⟩|⟨_,_,h⟩|⟨_,_,_,h⟩<;>cases h
   ·cases H
  ·cases H
 |seq a b=>simp only[qI,obi,omi] at H;obtain⟨_,_,_,_,H⟩:=H;cases H
 |cond c x y=>simp only[qI,obi,omi] at H;obtain⟨_,_,_,_,_,_,H⟩:=H;cases H
 |block id c=>simp only[qI,omi] at H;obtain⟨_,_,H⟩:=H;cases H
 |loop c=>simp only[qI,omi] at H;obtain⟨_,_,H⟩:=H;cases H
 |_=>cases H
theorem AW0.skip(h:Q .normal s):AW0 P n .skip Q s:=fun cx code hh hh' a w hP hn ht R=>by
 rcases ziz ht with rfl|⟨l,rfl⟩
 ·exact wp_skip ⟨s,h,R⟩
 ·exact wp_label ⟨s,h,R⟩
theorem AW0.reg{L:List RO}(h:∀gs:List GOp,L=(gs.map fun g=>⟨g,0,[]⟩)→zdr P gs s (Q .normal)):AW0 P n (.reg L) Q s:=fun cx code hh hh' a w hP hn ht R=>by
 obtain⟨id,ops,gs,rfl,hg,he⟩:=zgE ht;obtain⟨m,R⟩:=R;subst hP;subst hn;exact wp_region_list (zbh hg R (h gs he) fun s' hq m' a' w' R'=>⟨s',hq,m',R'⟩)
theorem AW0.regd{L:List RO}(h:Ka P L s (Q .normal)):AW0 P n (.regd L) Q s:=fun cx code hh hh' a w hP hn ht R=>by
 obtain⟨id,ops,rfl,hg,hd,hm⟩:=ziY ht;obtain⟨m,R⟩:=R;subst hP;subst hn;exact zhT hm hd hg R h fun s' hq m' a' w' R'=>⟨s',hq,m',R'⟩
theorem zcw{code:Code}{c:IC}(hc:(∃L,c= .regl L)∨(∃L M,c= .regt L M)∨∃L M N,c= .regp L M N){h h':Qy}(H:qI P n code h=some (c,h')):
  ∃id ops gs L r,code= .region id ops true∧ops.toList.mapM (toG P n ops)=some gs∧L.map (·.g)=gs∧zg7 P ops.toList gs L r=some (c,h'):=by
 cases code with
 |region id ops draw=>
  simp only[qI,obi] at H;obtain⟨gs',hg,H⟩:=H;split at H
  ·rename_i hd;split at H
   ·split at H
    ·cases H;rcases hc with⟨_,h⟩|⟨_,_,h⟩|⟨_,_,_,h⟩<;>cases h
    ·rename_i hs r _;have hlen:gs'.length≤(Xl gs' hs).length:=by
      have H:=H;unfold zg7 at H;split at H
      ·rename_i hx;simp only[Bool.and_eq_true,decide_eq_true_eq] at hx;exact hx.1.2
      split at H
      ·rename_i hx;simp only[Bool.and_eq_true,decide_eq_true_eq] at hx;exact hx.1.2
      ·cases H
     exact⟨id,ops,gs',_,_,by rw[hd],hg,zfu hlen,H⟩
   ·cases H
  ·cases H;rcases hc with⟨_,h⟩|⟨_,_,h⟩|⟨_,_,_,h⟩<;>cases h
 |seq a b=>simp only[qI,obi,omi] at H;obtain⟨_,_,_,_,H⟩:=H;cases H;rcases hc with⟨_,h⟩|⟨_,_,h⟩|⟨_,_,_,h⟩<;>cases h
 |cond c x y=>simp only[qI,obi,omi] at H;obtain⟨_,_,_,_,_,_,H⟩:=H;cases H;rcases hc with⟨_,h⟩|⟨_,_,h⟩|⟨_,_,_,h⟩<;>cases h
 |block id c=>simp only[qI,omi] at H;obtain⟨_,_,H⟩:=H;cases H;rcases hc with⟨_,h⟩|⟨_,_,h⟩|⟨_,_,_,h⟩<;>cases h
 |loop c=>simp only[qI,omi] at H;obtain⟨_,_,H⟩:=H;cases H;rcases hc with⟨_,h⟩|⟨_,_,h⟩|⟨_,_,_,h⟩<;>cases h
 |skip=>cases H;rcases hc with⟨_,h⟩|⟨_,_,h⟩|⟨_,_,_,h⟩<;>cases h
 |exit=>cases H;rcases hc with⟨_,h⟩|⟨_,_,h⟩|⟨_,_,_,h⟩<;>cases h
 |ret=>cases H;rcases hc with⟨_,h⟩|⟨_,_,h⟩|⟨_,_,_,h⟩<;>cases h
 |label=>cases H;rcases hc with⟨_,h⟩|⟨_,_,h⟩|⟨_,_,_,h⟩<;>cases h
 |_=>cases H
theorem AW0.regl{L:List RO}(E:List Nat)(h:zeB P true E L s (Q .normal)):AW0 P n (.regl L) Q s:=fun cx code hh hh' a w hP hn ht R=>by
 obtain⟨id,ops,gs,L',r,rfl,hg,hL,hx⟩:=zcw (.inl ⟨L,rfl⟩) ht;obtain⟨m,R⟩:=R;subst hP;subst hn;unfold zg7 at hx;split at hx
 ·cases hx
 split at hx
 ·rename_i hc;simp only[Bool.and_eq_true,decide_eq_true_eq] at hc;cases hk:(Xk L' == L'.length) with
  |false=>rw[hk] at hx;cases hx
  |true=>
   rw[hk] at hx hc;simp only[if_true,Option.some.injEq,Prod.mk.injEq,IC.regl.injEq] at hx;obtain⟨rfl,_⟩:=hx;have hk':Xk L'=L'.length:=by simpa using hk
   refine zdG (L:=L') (k:=Xk L') (lt:=true) (E:=E) hc.2 hc.1.1 (by rw[hL];exact hg) R (by rw[hk',List.take_length];exact h) fun s' hq m' a' w' R'=> ?_;rw[List.drop_of_length_le (by rw[hk'];exact Nat.le_of_eq (zdE hc.1.1).len)];exact⟨s',hq,m',R'⟩
 ·cases hx
theorem AW0.regt{L M:List RO}(h:Ka P L s fun s'=>∀gs:List GOp,M=(gs.map fun g=>⟨g,0,[]⟩)→∀(cx:Cx) (ops:Array Oper) (l:List Oper) (m:Go.AW.M) (a:Act) (w:World) (Qx:Exit→Act→World→Prop),cx.P=P→cx.n=n→l.mapM (toG cx.P cx.n ops)=some gs→zt cx m s' a w→
  (∀s'',Q .normal s''→∀m' a' w',zt cx m' s'' a' w'→Qx .normal a' w')→wpList cx.P ops Qx l a w):AW0 P n (.regt L M) Q s:=fun cx code hh hh' a w hP hn ht R=>by
 obtain⟨id,ops,gs,L',r,rfl,hg,hL,hx⟩:=zcw (.inr<|.inl ⟨L,M,rfl⟩) ht;obtain⟨m,R⟩:=R;subst hP;subst hn;unfold zg7 at hx;split at hx
 ·cases hx
 split at hx
 ·rename_i hc;simp only[Bool.and_eq_true,decide_eq_true_eq] at hc;cases hk:(Xk L' == L'.length) with
  |true=>rw[hk] at hx;cases hx
  |false=>
   rw[hk] at hx hc;simp only[Bool.false_eq_true,if_false,Option.some.injEq,Prod.mk.injEq,IC.regt.injEq] at hx;obtain⟨⟨rfl,rfl⟩,_⟩:=hx;refine zdG (L:=L') (k:=Xk L') (lt:=false) (E:=[]) hc.2 hc.1.1 (by rw[hL];exact hg) R (zbX h) fun s' hq m' a' w' R'=> ?_;have hd:(ops.toList.drop<|Xk L').mapM (toG cx.P cx.n ops)=some (gs.drop<|Xk L'):=by
    have key:∀(k:Nat) (l:List Oper) (gs:List GOp),l.mapM (toG cx.P cx.n ops)=some gs→(l.drop k).mapM (toG cx.P cx.n ops)=some (gs.drop k):=by
     intro k;induction k with
     |zero=>intro l gs h;simpa using h
     |succ k ih=>
      intro l gs h;cases l with
      |nil=>simp at h;subst h;simp
      |cons o l=>
       simp only[List.mapM_cons,Option.pure_def,Option.bind_eq_bind,obi] at h;obtain⟨g,_,gs',h2,e⟩:=h;cases e;exact ih l gs' h2
    exact key _ _ _ hg
   refine hq (gs.drop<|Xk L') ?_ cx ops _ m' a' w' _ O O hd R' fun s'' hs m'' a'' w'' R''=>⟨s'',hs,m'',R''⟩;rw[←hL];simp[List.map_drop];rfl
 ·cases hx
def zjV(K:St→Prop)(Q:Exit→St→Prop):Exit→St→Prop
 | .normal=>K
 |e=>Q e
theorem AW0.seq{x y:IC}(h:AW0 P n x (zjV (AW0 P n y Q) Q) s):AW0 P n (.seq x y) Q s:=fun cx code hh hh' a w hP hn ht R=>by
 cases code with
 |seq c d=>
  simp only[qI,obi,omi] at ht;obtain⟨p,hp,q,hq,he⟩:=ht;cases he;refine wp_seq (wp_mono (h cx c hh p.2 a w hP hn hp R) fun e a' w' ⟨s',hs,r⟩=> ?_);cases e with
  |normal=>exact hs cx d p.2 q.2 a' w' hP hn hq r
  |_=>exact⟨s',hs,r⟩
 |region id ops draw=>rcases yF ht with⟨_,h⟩|⟨_,h⟩|⟨_,h⟩|⟨_,_,h⟩|⟨_,_,_,h⟩<;>cases h
 |cond c x y=>simp only[qI,obi,omi] at ht;obtain⟨_,_,_,_,_,_,H⟩:=ht;cases H
 |block id c=>simp only[qI,omi] at ht;obtain⟨_,_,H⟩:=ht;cases H
 |loop c=>simp only[qI,omi] at ht;obtain⟨_,_,H⟩:=ht;cases H
 |_=>cases ht
theorem AW0.cond{c:Opd}{x y:IC}{t:Bool}(hc:s.ev c= .one (.d<|.bool t))(h1:t=true→AW0 P n x Q s)(h2:t=false→AW0 P n y Q s):AW0 P n (.cond c x y) Q s:=fun cx code hh hh' a w hP hn ht R=>by
 cases code with
 |cond c' x' y'=>
  simp only[qI,obi,omi] at ht;obtain⟨c0,hc0,p,hp,q,hq,he⟩:=ht;cases he;obtain⟨m,R0⟩:=R;have hv:=R0.opd hc0;rw[hc] at hv;have hv:=kO hv;refine wp_cond_split hv (fun e=> ?_) fun e=> ?_
  ·exact h1 e cx x' hh p.2 a w hP hn hp ⟨m,R0⟩
  ·exact h2 e cx y' p.2 q.2 a w hP hn hq ⟨m,R0⟩
 |region id ops draw=>rcases yF ht with⟨_,h⟩|⟨_,h⟩|⟨_,h⟩|⟨_,_,h⟩|⟨_,_,_,h⟩<;>cases h
 |seq c x=>simp only[qI,obi,omi] at ht;obtain⟨_,_,_,_,H⟩:=ht;cases H
 |block id c=>simp only[qI,omi] at ht;obtain⟨_,_,H⟩:=ht;cases H
 |loop c=>simp only[qI,omi] at ht;obtain⟨_,_,H⟩:=ht;cases H
 |_=>cases ht
theorem AW0.condU{c:Opd}{x y:IC}(hc:s.ev c= .one .anyb)(h1:AW0 P n x Q s)(h2:AW0 P n y Q s):AW0 P n (.cond c x y) Q s:=fun cx code hh hh' a w hP hn ht R=>by
 cases code with
 |cond c' x' y'=>
  simp only[qI,obi,omi] at ht;obtain⟨c0,hc0,p,hp,q,hq,he⟩:=ht;cases he;obtain⟨m,R0⟩:=R;have hv:=R0.opd hc0;rw[hc] at hv;obtain⟨_,b,hv⟩:=hv;refine wp_cond_split hv (fun e=> ?_) fun e=> ?_
  ·exact h1 cx x' hh p.2 a w hP hn hp ⟨m,R0⟩
  ·exact h2 cx y' p.2 q.2 a w hP hn hq ⟨m,R0⟩
 |region id ops draw=>rcases yF ht with⟨_,h⟩|⟨_,h⟩|⟨_,h⟩|⟨_,_,h⟩|⟨_,_,_,h⟩<;>cases h
 |seq c x=>simp only[qI,obi,omi] at ht;obtain⟨_,_,_,_,H⟩:=ht;cases H
 |block id c=>simp only[qI,omi] at ht;obtain⟨_,_,H⟩:=ht;cases H
 |loop c=>simp only[qI,omi] at ht;obtain⟨_,_,H⟩:=ht;cases H
 |_=>cases ht
def zvl(id:Nat)(Q:Exit→St→Prop):Exit→St→Prop
 | .exit i=>if i=id then Q .normal else Q (.exit i)
 |e=>Q e
theorem AW0.block{id:Nat}{c:IC}(h:AW0 P n c (zvl id Q) s):AW0 P n (.block id c) Q s:=fun cx code hh hh' a w hP hn ht R=>by
 cases code with
 |block id' c'=>
  simp only[qI,omi] at ht;obtain⟨p,hp,he⟩:=ht;cases he;refine wp_block (wp_mono (h cx c' hh p.2 a w hP hn hp R) fun e a' w' ⟨s',hs,r⟩=> ?_);cases e with
  |exit i=>
   simp only[Exit.inBlock,zvl] at hs ⊢;split
   ·rename_i hi;rw[if_pos hi] at hs;exact⟨s',hs,r⟩
   ·rename_i hi;rw[if_neg hi] at hs;exact⟨s',hs,r⟩
  |_=>exact⟨s',hs,r⟩
 |region id ops draw=>rcases yF ht with⟨_,h⟩|⟨_,h⟩|⟨_,h⟩|⟨_,_,h⟩|⟨_,_,_,h⟩<;>cases h
 |seq c x=>simp only[qI,obi,omi] at ht;obtain⟨_,_,_,_,H⟩:=ht;cases H
 |cond c x y=>simp only[qI,obi,omi] at ht;obtain⟨_,_,_,_,_,_,H⟩:=ht;cases H
 |loop c=>simp only[qI,omi] at ht;obtain⟨_,_,H⟩:=ht;cases H
 |_=>cases ht
theorem AW0.loop{c:IC}{α:Type}(I:α→St→Prop)(μ:α→Nat){x0:α}(h0:∃t,I x0 t∧Wk t s)
  (hr:∀x t,I x t→AW0 P n c (zjV (fun s'=>∃y t',μ y < μ x∧I y t'∧Wk t' s') Q) t):AW0 P n (.loop c) Q s:=fun cx code hh hh' a w hP hn ht R=>by
 cases code with
 |loop c'=>
  simp only[qI,omi] at ht;obtain⟨p,hp,he⟩:=ht;cases he;obtain⟨t,ht0,hwk⟩:=h0;refine wp_loop_ghost (fun k a w=>∃x t,μ x=k∧I x t∧Rel cx t a w) (μ x0) ⟨x0,t,_root_.rfl,ht0,hwk cx a w R⟩ fun k a w ⟨x,t,hk,hI,r⟩=> ?_;refine wp_mono (hr x t hI cx c' hh p.2 a w hP hn hp r) fun e a' w' ⟨s',hs,r'⟩=> ?_;cases e with
  |normal=>
   obtain⟨y,t',hlt,hIy,hw⟩:=hs;exact⟨μ y,by omega,y,t',_root_.rfl,hIy,hw cx a' w' r'⟩
  |_=>exact⟨s',hs,r'⟩
 |region id ops draw=>rcases yF ht with⟨_,h⟩|⟨_,h⟩|⟨_,h⟩|⟨_,_,h⟩|⟨_,_,_,h⟩<;>cases h
 |seq c x=>simp only[qI,obi,omi] at ht;obtain⟨_,_,_,_,H⟩:=ht;cases H
 |cond c x y=>simp only[qI,obi,omi] at ht;obtain⟨_,_,_,_,_,_,H⟩:=ht;cases H
 |block id c=>simp only[qI,omi] at ht;obtain⟨_,_,H⟩:=ht;cases H
 |_=>cases ht
theorem AW0.exit{id:Nat}(h:Q (.exit id) s):AW0 P n (.exit id) Q s:=fun cx code hh hh' a w hP hn ht R=>by
 cases code with
 |exit id'=>cases ht;exact wp_exit ⟨s,h,R⟩
 |region id ops draw=>rcases yF ht with⟨_,h⟩|⟨_,h⟩|⟨_,h⟩|⟨_,_,h⟩|⟨_,_,_,h⟩<;>cases h
 |seq c x=>simp only[qI,obi,omi] at ht;obtain⟨_,_,_,_,H⟩:=ht;cases H
 |cond c x y=>simp only[qI,obi,omi] at ht;obtain⟨_,_,_,_,_,_,H⟩:=ht;cases H
 |block id c=>simp only[qI,omi] at ht;obtain⟨_,_,H⟩:=ht;cases H
 |loop c=>simp only[qI,omi] at ht;obtain⟨_,_,H⟩:=ht;cases H
 |_=>cases ht
theorem AW0.ret(h:Q .ret s):AW0 P n .ret Q s:=fun cx code hh hh' a w hP hn ht R=>by
 cases code with
 |ret=>cases ht;exact wp_ret ⟨s,h,R⟩
 |region id ops draw=>rcases yF ht with⟨_,h⟩|⟨_,h⟩|⟨_,h⟩|⟨_,_,h⟩|⟨_,_,_,h⟩<;>cases h
 |seq c x=>simp only[qI,obi,omi] at ht;obtain⟨_,_,_,_,H⟩:=ht;cases H
 |cond c x y=>simp only[qI,obi,omi] at ht;obtain⟨_,_,_,_,_,_,H⟩:=ht;cases H
 |block id c=>simp only[qI,omi] at ht;obtain⟨_,_,H⟩:=ht;cases H
 |loop c=>simp only[qI,omi] at ht;obtain⟨_,_,H⟩:=ht;cases H
 |_=>cases ht
end Go.AW
