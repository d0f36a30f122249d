/- Rules for room, copies, cuts beyond a slice's length, and two functions of Go's package slices: Insert of one element, Delete. Lemmas. Conditions: none. -/
import Derived.Test.YtpabbbmfcgnhdaaGreatYc
import Derived.Laws.Externs
import Derived.Lib.Overlaps
set_option linter.unusedVariables false
set_option maxRecDepth 100000
namespace Go.AW
theorem zjz{a:Int}(h1:-9223372036854775808≤a)(h2:a < 9223372036854775808):IntKind.wrap .i64 a=a:=by rw[IntKind.wrap_i64];omega
section
variable {P:Program} {l:bg} {h:bh} {g:Nat→V} {Q:St→Prop} {rs:List RO} {dep:Nat} {A:List Nat} {d:Nat} {x y z:Opd} {v u:V} {k:IntKind} {a b:Int}
theorem zfj{c:Int}(hx:Ev l x (.one<|.d<|.int k a))(hy:Ev l y (.one<|.d<|.int k b))(hw:k.wrap (a+b)=c)(K:RG P rs (mk ((d,.one<|.d<|.int k c)::l) h g) Q):RG P (⟨⟨none,.bin d .add x y⟩,dep,A⟩::rs) (mk l h g) Q:=by
 subst hw;exact zxz hx hy K
theorem zFR{c:Int}(hx:Ev l x (.one<|.d<|.int k a))(hy:Ev l y (.one<|.d<|.int k b))(hw:k.wrap (a - b)=c)(K:RG P rs (mk ((d,.one<|.d<|.int k c)::l) h g) Q):RG P (⟨⟨none,.bin d .sub x y⟩,dep,A⟩::rs) (mk l h g) Q:=by
 subst hw;exact zFh hx hy K
theorem zKf{n off len c q sz:Nat}{xs:List (List D)}{own:Bool}(hx:Ev l x (.one<|.sl n off len))(hb:LB (zZ A h) n (.data sz xs own<|some c))(hq:c - off=q)(K:RG P rs (mk ((d,.one<|.d<|.int .i64 (q:Int))::l) h g) Q):RG P (⟨⟨none,.cap d x⟩,dep,A⟩::rs) (mk l h g) Q:=by
 subst hq;have hb:(mk l (zZ A h) g).hp n=some (.data sz xs own<|some c):=hb;exact qA (by simp) (by simp only[AW.ev,hx.ev,hb]) K
theorem zb3{α:Type}{f:α→List D}{sz n r len:Nat}{zs:List D}{own o:Bool}{cp:Option Nat}{xs ys:List α}(hb:LB h n (.data sz (xs.map f) o cp))(hl:r+len≤xs.length)(hf:∀x,((f x).all D.flat)=true)(he:(xs.drop r).take len=ys):El h sz zs own (.one<|.sl n r len) (ys.map f):=by
 subst he;have hb:(mk [] h fun _=> .top).hp n=some (.data sz (xs.map f) o cp):=hb;unfold El St.elems;simp only[hb,List.length_map];rw[if_pos ⟨trivial,hl,qf hf⟩];simp[List.map_drop,List.map_take]
theorem zh9{α:Type}{f:α→List D}{sz n r len q:Nat}{own:Bool}{cp:Option Nat}{xs ys zs:List α}{yv:V}(hx:Ev l x (.one<|.sl n r len))(hy:Ev l y yv)(hb:LB (zZ A h) n (.data sz (xs.map f) own cp))(he:El (zZ A h) sz [] own (yv.upTo len) (ys.map f))(hr:r≤xs.length)(hq:min ys.length len=q)(hz:xs.take r++ys.take len++xs.drop (r+q)=zs)
  (K:RG P rs (mk ((d,.one<|.d<|.int .i64 (q:Int))::l) ((n,.data sz (zs.map f) own cp)::h) g) Q):RG P (⟨⟨none,.copy d sz x y⟩,dep,A⟩::rs) (mk l h g) Q:=by
 subst hq;subst hz;have hb:(mk l (zZ A h) g).hp n=some (.data sz (xs.map f) own cp):=hb;refine zhe (by simp) ?_ K;simp only[AW.ev,hx.ev,hy.ev,hb,he.st,Option.bind_some,List.length_map];rw[if_pos ⟨trivial,hr⟩];simp[List.map_drop,List.map_take]
theorem zJq{α:Type}{f:α→List D}{sz bytes n m len c L:Nat}{zs:List D}{zv:α}{own:Bool}{q:Nat}{xs:List α}(hx:Ev l x (.one<|.sl n 0 len))(hy:Ev l y (.one<|.d<|.int k (q:Int)))(hb:LB (zZ A h) n (.data sz (xs.map f) own<|some c))(hn:d * 64=m)(hnb:NB (zZ A h) m)(hz:zs=f zv)
  (h1:0 < q) (h2:len≤xs.length) (h3:c < len+q) (h4:len+q≤2147483648) (h5:bytes≤65536) (hf:∀x,((f x).all D.flat)=true) (hL:len+q=L)
  (K:RG P rs (mk ((d,.one<|.sl m 0 L)::l) ((m,.data sz ((xs.take len++List.replicate q zv).map f) true none)::h) g) Q):RG P (⟨⟨none,.apm d sz bytes zs x y⟩,dep,A⟩::rs) (mk l h g) Q:=by
 subst hn;subst hL;subst hz;have hb:(mk l (zZ A h) g).hp n=some (.data sz (xs.map f) own<|some c):=hb;have hnb:(mk l (zZ A h) g).hp (d * 64)=none:=hnb;refine zhe (by simp) ?_ K;simp only[AW.ev,hx.ev,hy.ev,hb,hnb,V.nat,List.length_map];rw[if_pos (by omega)];simp only[Option.bind_some,Int.toNat_natCast];rw[if_pos ⟨trivial,h1,h2,h3,by unfold big;exact h4,h5,qf hf⟩];simp[List.map_take]
theorem zo3{sz n len c r s:Nat}{xs:List (List D)}{own:Bool}{lo hi:Option Opd}{p q:Int}(hx:Ev l x (.one<|.sl n 0 len))(hb:LB (zZ A h) n (.data sz xs own<|some c))(hl:Bd l 0 lo p)(hh:Bd l len hi q)(hr:p.toNat=r)(hs:q.toNat - p.toNat=s)(hc:0≤p∧p≤q∧q≤c)
  (K:RG P rs (mk ((d,.one<|.sl n r s)::l) h g) Q):RG P (⟨⟨none,.slice d sz x lo hi none⟩,dep,A⟩::rs) (mk l h g) Q:=by
 subst hr;subst hs;have hb:(mk l (zZ A h) g).hp n=some (.data sz xs own<|some c):=hb;have hz:(mk l (zZ A h) g).blkSz n=some sz:=by
  unfold St.blkSz;rw[hb]
 have hro:(mk l (zZ A h) g).room n=c:=by
  unfold St.room;rw[hb];rfl
 refine qA (by simp) ?_ K;have h1:optNat (mk l (zZ A h) g) 0 lo=some p.toNat:=Bd.nat (dflt:=0) hl hc.1;have h2:optNat (mk l (zZ A h) g) len hi=some q.toNat:=Bd.nat hh (by omega);simp only[AW.ev,hx.ev,St.cut,h1,h2,Option.bind_some];rw[if_pos ⟨hz,by omega,.inr (by rw[hro];omega)⟩];simp
theorem zGH{sz n off len:Nat}{lo hi mx:Opd}{p q r:Nat}{k1 k2 k3:IntKind}(hx:Ev l x (.one<|.sl n off len))(h1:Ev l lo (.one<|.d<|.int k1 (p:Int)))(h2:Ev l hi (.one<|.d<|.int k2 (q:Int)))(h3:Ev l mx (.one<|.d<|.int k3 (r:Int)))(h0:0 < q)(hc:p≤q∧q≤r∧r≤len)
  (K:RG P rs (mk ((d,.top)::l) h g) Q):RG P (⟨⟨none,.slice d sz x (some lo) (some hi)<|some mx⟩,dep,A⟩::rs) (mk l h g) Q:=by
 refine qA (by simp) ?_ K;have e1:((mk l (zZ A h) g).ev lo).nat=some p:=by rw[h1.ev];simp[V.nat]
 have e2:((mk l (zZ A h) g).ev hi).nat=some q:=by rw[h2.ev];simp[V.nat]
 have e3:((mk l (zZ A h) g).ev mx).nat=some r:=by rw[h3.ev];simp[V.nat]
 have e4:mx.zero (mk l (zZ A h) g) hi lo=none:=by
  unfold Opd.zero;simp only[e1,e2,e3,Option.bind_some];rw[if_neg (by omega)]
 simp only[AW.ev,hx.ev,St.cut,Option.getD_some,e4,Option.none_or,e3,Option.bind_some,optNat,e2,e1];rw[if_pos hc];rfl
theorem zy8{α:Type}{f:α→List D}{sz bytes n len c q:Nat}{zs:List D}{own:Bool}{yv:V}{xs ys ws:List α}(hx:Ev l x (.one<|.sl n 0 len))(hy:Ev l y yv)(hb:LB (zZ A h) n (.data sz (xs.map f) own<|some c))(he:El (zZ A h) sz zs own yv (ys.map f))(h1:len < xs.length)(h2:len+ys.length≤xs.length)(h3:xs.length≤c)(hq:len+ys.length=q)(hw:xs.take len++ys++xs.drop q=ws)
  (K:RG P rs (mk ((d,.one<|.sl n 0 q)::l) ((n,.data sz (ws.map f) own<|some c)::h) g) Q):RG P (⟨⟨none,.app d sz bytes zs x y⟩,dep,A⟩::rs) (mk l h g) Q:=by
 subst hq;subst hw;have hb:(mk l (zZ A h) g).hp n=some (.data sz (xs.map f) own<|some c):=hb;refine zhe (by simp) ?_ K;simp only[AW.ev,hx.ev,hy.ev,hb,he.st,Option.bind_some,List.length_map];rw[if_neg (by omega),if_pos ⟨trivial,h2,by simpa using h3⟩];simp[List.map_drop,List.map_take]
end
theorem zfr{P:Program}{nn:Nat}{c:IC}{Q:Exit→St→Prop}{l:bg}{h:bh}{g:Nat→V}{t n sz:Nat}{xs:List (List D)}{own:Bool}(hx:Ev l (.t t) (.one<|.sl n 0 xs.length))(hb:LB h n (.data sz xs own none))
  (K:∀cap:Nat,xs.length≤cap→AW P nn c Q (Go.AW.mk l ((n,.data sz xs own<|some cap)::h) g)):AW P nn c Q (Go.AW.mk l h g):=⟨fun cx code hh hh' a w hP hn hic ⟨m,R⟩=>by
 have hs:=R.sl t;have e:(Go.AW.mk l h g).sl t= .one (.sl n 0 xs.length):=hx.ev (h:=h) (g:=g);rw[e] at hs;obtain⟨f,hf,hcap,_⟩:=ye hs;refine(K f.cap (by omega)).h cx code hh hh' a w hP hn hic ⟨m,R.size,R.defers,R.sl,fun j=> ?_,R.own,R.fr,R.gh⟩;show zT cx m w.heap j (if j=n then _ else lkB h j) _;by_cases ej:j=n
 ·subst ej;rw[if_pos rfl];have H:=R.hp j;have eb:(Go.AW.mk l h g).hp j=some (.data sz xs own none):=hb;rw[eb,hf] at H;rw[hf];unfold zT at H ⊢;simp only at H ⊢;cases hbk:f.blk with
  |none=>
   rw[hbk] at H;obtain⟨h1,s',o',cp',he,h2,h3⟩:=H;injection he with e1 e2 e3 e4;subst e1;subst e2;subst e3;exact⟨h1,sz,own,some f.cap,rfl,h2,by simp⟩
  |some b=>
   rw[hbk] at H;obtain⟨h1,h2,cells,T,h3,h4,h5⟩:=H;obtain⟨i1,i2,i3⟩:=h5;exact⟨h1,h2,cells,T,h3,h4,i1,by simp,i3⟩
 ·rw[if_neg ej];exact R.hp j⟩
theorem zlM(n:Nat){sz:Nat}{zs es:List D}{cs:List C}{l:bg}{h:bh}{g:Nat→V}(hb:LB h n (.vars sz cs))(he:xQ true zs cs=some es)(hl:cs.length=sz):Wk (mk l ((n,.data sz [es] true none)::h) g) (mk l h g):=fun cx a w ⟨m,R⟩=>by
 refine⟨m,R.size,R.defers,R.sl,fun j=> ?_,R.own,R.fr,R.gh⟩;show zT cx m w.heap j (if j=n then _ else lkB h j) _;by_cases e:j=n
 ·subst e;rw[if_pos rfl];have H:=R.hp j;have e:(mk l h g).hp j=some (.vars sz cs):=hb;rw[e] at H;cases hi:m.inf j with
  |none=>rw[hi] at H;exact H.elim
  |some fi=>
   rw[hi] at H;unfold zT at H ⊢;simp only at H ⊢;cases hbk:fi.blk with
   |none=>
    rw[hbk] at H;obtain⟨h1,s',o',cp',he,h2,h3⟩:=H;cases he
   |some b=>
    rw[hbk] at H;obtain⟨h1,h2,cells,T,h3,h4,h5,h6⟩:=H;obtain⟨bs,hr,ho,_⟩:=Kr (m:=m) he h6;have hlen:=hr.length;have hlc:=h6.length;refine⟨h1,h2,cells,T,h3,h4,h5,by simp,[],?_,fun _=>⟨List.nodup_nil,by simp⟩,fun h=>by cases h⟩;rw[ho rfl] at hr;simp only[RdLL];refine⟨[],[],by simp,by omega,?_,rfl⟩;rw[List.take_of_length_le (by omega)];exact hr
 ·rw[if_neg e];exact R.hp j
theorem ziP{P:Program}{n:Nat}{o:Oper}{d:Nat}{f:Opd}{args:List Opd}(h1:x9 P n o=some (.callv d f args)):∃(f0:Operand) (xs:Array Operand) (ts:Array TypeId),o.op= .call {callee:= .value f0,args:=xs,argTypes:=ts}∧o.dst=some d∧d < n∧zJ f0=some f∧xs.toList.mapM zJ=some args:=by
 have key:∃c:Call,o.op= .call c∧Qa P n o c=some (.callv d f args):=by
  unfold x9 at h1;split at h1
  case h_24 c hop=>exact⟨c,hop,h1⟩
  case h_25=>cases h1
  case h_9=>
   split at h1;rotate_left
   ·cases h1
   simp only[obi,omi] at h1;obtain⟨_,_,_,_,_,_,h1⟩:=h1;cases h1
  all_goals
   rw[obi] at h1;obtain⟨d,hd,h1⟩:=h1
   repeat' (first|(rw[obi] at h1;obtain⟨_,_,h1⟩:=h1)|(rw[omi] at h1;obtain⟨_,_,h1⟩:=h1;cases h1;done)|(split at h1)|(cases h1;done))
 obtain⟨c,hop,hc⟩:=key;obtain⟨callee,xs,ts⟩:=c;have kk:∃f0,callee= .value f0∧yw n o=some d∧zJ f0=some f∧xs.toList.mapM zJ=some args:=by
  unfold Qa at hc;split at hc
  case h_8 f0 hf0=>
   simp only at hf0;subst hf0;simp only[obi,omi] at hc;obtain⟨d',hd,f',hf,xs',hxs,hc⟩:=hc;cases hc;exact⟨f0,rfl,hd,hf,hxs⟩
  case h_9=>cases hc
  case h_5=>
   simp only[obi] at hc;obtain⟨_,_,_,_,_,_,_,_,_,_,_,_,hc⟩:=hc;split at hc
   ·simp only[omi] at hc;obtain⟨_,_,hc⟩:=hc;cases hc
   ·cases hc
  case h_2=>
   rw[obi] at hc;obtain⟨_,_,hc⟩:=hc;rw[obi] at hc;obtain⟨_,_,hc⟩:=hc;split at hc;rotate_left
   ·simp only[obi] at hc;obtain⟨_,_,_,_,_,_,_,_,_,_,_,_,hc⟩:=hc;split at hc
    ·simp only[obi,omi] at hc;obtain⟨_,_,_,_,hc⟩:=hc;cases hc
    ·cases hc
   simp only[obi] at hc;obtain⟨_,_,_,_,_,_,_,_,hc⟩:=hc;split at hc;rotate_left
   ·cases hc
   simp only[obi,omi] at hc;obtain⟨_,_,_,_,hc⟩:=hc;cases hc
  all_goals
   simp only[obi,omi] at hc;obtain⟨_,_,hc⟩:=hc
   repeat' (obtain⟨_,_,hc⟩:=hc)
   first|(cases hc;done)|skip
 obtain⟨f0,rfl,hdd,hf,hxs⟩:=kk;exact⟨f0,xs,ts,hop,(zd hdd).1,(zd hdd).2,hf,hxs⟩
theorem zgk(n:Nat){α:Type}{f:α→List D}{t:α}{sz:Nat}{zs:List D}{cs:List C}{l:bg}{h:bh}{g:Nat→V}(hb:LB h n (.vars sz cs))(he:xQ true zs cs=some (f t))(hl:cs.length=sz):Wk (mk l ((n,.data sz (List.map f [t]) true none)::h) g) (mk l h g):=zlM n hb he hl
def zkD(P:Program)(f:FuncId):Prop:=∀(w:World) (ad ad':Option Addr) (la ca lb cb:Nat),((la=0∨lb=0)∨∃a b,ad=some a∧ad'=some b∧(∃c T,w.heap[a.block]? =some (.cells c T (0,0)))∧(∃c T,w.heap[b.block]? =some (.cells c T (0,0))∧c.size≠0)∧a.block≠b.block)→
 (callFunc f #[.slice ad la ca,.slice ad' lb cb]).run P w= .ok (.value<|.bool false) w
theorem zo9{P:Program}{f:FuncId}{fn:Func}{tS tR e:TypeId}{i:TypeInfo}(hf:P.funcs[f]? =some fn)(hname:(fn.name == "runtime.NumGoroutine")=false)(hb:fn.body.isNone=true)(hn:Extern.findNext fn=none)(he:Extern.find fn=some (Extern.SlicesOverlaps.overlaps #[tS,tS] #[tR]))
  (ht:P.underlying tS=some (.slice e)) (hi:P.info? e=some i):zkD P f:=fun w ad ad' la ca lb cb H=>by
 rw[run_callFunc_extern hf hname hb hn he];have key:(Extern.SlicesOverlaps.overlaps #[tS,tS] #[tR] #[.slice ad la ca,.slice ad' lb cb]).run P w= .ok (.bool false) w:=by
  rcases H with hz|⟨a,b,rfl,rfl,⟨c1,T1,e1⟩,⟨c2,T2,e2,h0⟩,hne⟩
  ·have hz':la=0∨lb=0∨i.size=0:=by rcases hz with h|h<;>simp[h]
   change Sem.run P (α:=Value) (do
    let some t:=(#[tS,tS]:Array TypeId)[0]?|stuck "slices.overlaps: no parameter types"
    let .slice elem ←underlying t|stuck "slices.overlaps: slice type expected"
    let size ←sizeOf elem
    match ad,ad' with
    |some a,some b=>
     if la=0∨lb=0∨size=0 then pure (Value.bool false)
     else if a.block != b.block&&(←frozen a)&&(←frozen b) then unsupported .addressObserved
     else do
      if a.block != b.block then do
       noView a;noView b
       if ←mayBeOne a b then return Value.bool ((←choose (.extern "sameAddr.stringBytes" 2)) == 1)
      pure (Value.bool (a.block == b.block&&a.off < b.off+lb * size&&b.off < a.off+la * size))
    |_,_=>pure (Value.bool false)) w=_
   cases ad<;>cases ad'<;>simp[zp ht,qt hi,hz']
  ·exact Lib.run_overlaps_apart w tS tR e ht i.size (fun w=>qt hi) a b la ca lb cb hne T1 T2 c1.size c2.size (by simp[World.shape?,e1]) (by simp[World.shape?,e2]) h0 (by simp[World.frozen?,e1]) (by simp[World.frozen?,e1])
 rw[key];rfl
theorem zGX{P:Program}{nn:Nat}{L:List RO}{Q:St→Prop}{l:bg}{h:bh}{g:Nat→V}{d f:Nat}{x y:Opd}{n1 n2 o1 o2 l1 l2 z1 z2:Nat}{xs ys:List (List D)}{w1 w2:Bool}{c1 c2:Option Nat}(hov:zkD P f)(hx:Ev l x (.one<|.sl n1 o1 l1))(hy:Ev l y (.one<|.sl n2 o2 l2))(hb1:LB h n1 (.data z1 xs w1 c1))(hb2:LB h n2 (.data z2 ys w2 c2))(hz:z2≠0)(hne:Nat.beq n1 n2=false)
  (K:RM P nn L (mk ((d,.one<|.d<|.bool false)::l) h g) Q):RM P nn (⟨⟨none,.callv d (.c<|.one<|.fn f []) [x,y]⟩,0,[]⟩::L) (mk l h g) Q:=⟨fun gs hL cx ops lo m a w Qx hP hn hm R hQ=>by
 subst hP;subst hn;cases gs with
 |nil=>cases hL
 |cons gg gs=>
  simp only[List.map_cons,List.cons.injEq,RO.mk.injEq,and_true] at hL;obtain⟨rfl,hL⟩:=hL;cases lo with
  |nil=>simp at hm
  |cons o lo=>
   simp only[List.mapM_cons,Option.pure_def,Option.bind_eq_bind,obi] at hm;obtain⟨g',hg,gs',hgs,he⟩:=hm;cases he;obtain⟨h1,h2,_⟩:=Y4 hg;obtain⟨f0,xs0,ts,hop,hdd,hn,hf0,hxs⟩:=ziP h1;have hfv:a.eval f0= .func (.func f) #[] #[]:=by
    have:=R.opd hf0;have this:qK m w.heap (.one<|.fn f []) (a.eval f0):=this;obtain⟨_,vs,e,hr⟩:=this;have:vs=#[]:=by
     cases hv:vs.toList with
     |nil=>exact Array.toList_inj.1 (by simpa using hv)
     |cons _ _=>rw[hv] at hr;exact hr.elim
    rw[e,this]
   have hrel:=kT R hxs;have hxv:(mk l h g).ev x= .one (.sl n1 o1 l1):=hx.ev;have hyv:(mk l h g).ev y= .one (.sl n2 o2 l2):=hy.ev;simp only[List.map_cons,List.map_nil,hxv,hyv] at hrel;cases hl0:xs0.toList with
   |nil=>rw[hl0] at hrel;exact hrel.elim
   |cons p r=>cases r with
    |nil=>rw[hl0] at hrel;exact hrel.2.elim
    |cons q r=>cases r with
     |cons _ _=>rw[hl0] at hrel;exact hrel.2.2.elim
     |nil=>
      rw[hl0] at hrel;obtain⟨f1,hf1,hc1,ad1,hu1,had1⟩:=ye hrel.1;obtain⟨f2,hf2,hc2,ad2,hu2,had2⟩:=ye hrel.2.1;have hb1:(mk l h g).hp n1=some (.data z1 xs w1 c1):=hb1;have hb2:(mk l h g).hp n2=some (.data z2 ys w2 c2):=hb2;have H1:=R.hp n1;have H2:=R.hp n2;rw[hb1,hf1] at H1;rw[hb2,hf2] at H2;have hcall:(callFunc f #[.slice ad1 l1 (f1.cap - o1),.slice ad2 l2 (f2.cap - o2)]).run cx.P w= .ok (.value<|.bool false) w:=by
       by_cases g1:o1 < f1.cap
       ·by_cases g2:o2 < f2.cap
        ·obtain⟨b1,hb1',rfl⟩:=had1 g1;obtain⟨b2,hb2',rfl⟩:=had2 g2;unfold zT at H1 H2;simp only[hb1'] at H1;simp only[hb2'] at H2;obtain⟨_,p2,cc1,T1,p4,_⟩:=H1;obtain⟨_,q2,cc2,T2,q4,q5,q6,_⟩:=H2;refine hov w _ _ _ _ _ _ (.inr ⟨_,_,rfl,rfl,⟨cc1,T1,p4⟩,⟨cc2,T2,q4,?_⟩,?_⟩)
         ·have h0:0 < f2.cap * f2.sz:=Nat.mul_pos (by omega) (by omega);omega
         ·intro e;simp only at e;subst e;rw[p2] at q2;cases q2;simp at hne
        ·have:l2=0:=by omega
         subst this;exact hov w _ _ _ _ _ _ (.inl<|.inr O)
       ·have:l1=0:=by omega
        subst this;exact hov w _ _ _ _ _ _ (.inl<|.inl O)
      unfold wpList;have hw:Region.wanted o (yielded ops a.tmps)=true:=by simp[Region.wanted,h2 rfl]
      rw[if_pos hw];left;refine js (u:= .bool false) (w':=w) ?_ ?_
      ·unfold execOp;have hargs:xs0=#[p,q]:=Array.toList_inj.1 (by simpa using hl0);subst hargs;simp only[hop,resolve,hfv,Deferred.ofValue,Sem.run_bind,Sem.run_pure,Result.andThen_ok,invoke,List.map_toArray,List.map_cons,List.map_nil,hu1,hu2];simpa using hcall
      ·rw[hdd];have:=R.set hn (v:= .one (.d<|.bool false)) (u:= .bool false) (yG _);have e:(mk l h g).set d (.one<|.d<|.bool false)=mk ((d,.one<|.d<|.bool false)::l) h g:=by
        unfold mk St.set;simp only[St.mk.injEq,and_true];funext t;simp only[lk]
       rw[e] at this;exact K.out gs hL cx ops lo m _ w Qx O O hgs this hQ⟩
end Go.AW
