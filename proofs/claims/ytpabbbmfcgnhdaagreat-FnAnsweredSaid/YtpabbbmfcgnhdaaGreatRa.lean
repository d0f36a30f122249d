/- A small machine that goes through what needs no knowledge of the plain side: operation by operation, in one step. Lemmas. Conditions: none. -/
import Derived.Test.YtpabbbmfcgnhdaaGreatYx
set_option linter.unusedVariables false
namespace Go.AW
inductive Fm where
 |seq (y:IC)
 |blk (i:Nat)
 |stop (K:St→Prop)
def QS(P:Program)(n:Nat)(Q:Exit→St→Prop):List Fm→Exit→St→Prop
 |[]=>Q
 | .seq y::fs=>TQ (AW P n y<|QS P n Q fs) (QS P n Q fs)
 | .blk i::fs=>BQ i (QS P n Q fs)
 | .stop K::fs=>TQ K (QS P n Q fs)
inductive At where
 |code (c:IC)
 |ops (L:List RO)
 |opm (L:List RO)
 |out (e:Exit)
def Sm(P:Program)(n:Nat)(Q:Exit→St→Prop)(g:Nat→V)(a:At)(fs:List Fm)(l:bg)(h:bh):Prop:=match a with
 | .code c=>AW P n c (QS P n Q fs) (mk l h g)
 | .ops L=>RG P L (mk l h g) (QS P n Q fs .normal)
 | .opm L=>RM P n L (mk l h g) (QS P n Q fs .normal)
 | .out e=>QS P n Q fs e (mk l h g)
def lkK(s:Prop)(k:V→Prop)(n:Nat):bg→Prop
 |[]=>s
 |(m,v)::r=>match Nat.beq n m with
  |true=>k v
  |false=>lkK s k n r
theorem zfv{s:Prop}{k:V→Prop}{n:Nat}:∀{l:bg},lkK s k n l→(∃v,lkO l n=some v∧k v)∨s
 |[],H=> .inr H
 |(m,v)::r,H=>by
  unfold lkK at H;unfold lkO;cases e:Nat.beq n m with
  |true=>rw[e] at H;exact .inl ⟨v,rfl,H⟩
  |false=>rw[e] at H;exact zfv H
def evK(s:Prop)(l:bg)(x:Opd)(k:V→Prop):Prop:=match x with
 | .t n=>lkK s k n l
 | .c v=>k v
theorem jZ{s:Prop}{l:bg}{x:Opd}{k:V→Prop}(H:evK s l x k):(∃v,Ev l x v∧k v)∨s:=by
 cases x with
 |t n=>exact zfv H
 |c v=>exact .inl ⟨v,rfl,H⟩
def lbK(s:Prop)(k:Blk→Prop)(n:Nat):bh→Prop
 |[]=>s
 |(m,v)::r=>match Nat.beq n m with
  |true=>k v
  |false=>lbK s k n r
theorem zkF{s:Prop}{k:Blk→Prop}{n:Nat}:∀{h:bh},lbK s k n h→(∃b,LB h n b∧k b)∨s
 |[],H=> .inr H
 |(m,v)::r,H=>by
  unfold lbK at H;cases e:Nat.beq n m with
  |true=>rw[e] at H;rw[Nat.eq_of_beq_eq_true e];exact .inl ⟨v,LB.here,H⟩
  |false=>rw[e] at H;exact(zkF H).imp (fun⟨b,h1,h2⟩=>⟨b,LB.there e h1,h2⟩) id
def lhK(s:Prop)(A:List Nat)(h:bh)(n:Nat)(k:Blk→Prop):Prop:=match zhU A n with
 |true=>lbK s k n h
 |false=>s
theorem zhW{s:Prop}{A:List Nat}{h:bh}{n:Nat}{k:Blk→Prop}(H:lhK s A h n k):(∃b,LB (zZ A h) n b∧k b)∨s:=by
 unfold lhK at H;cases e:zhU A n with
 |false=>rw[e] at H;exact .inr H
 |true=>rw[e] at H;exact(zkF H).imp (fun⟨b,h1,h2⟩=>⟨b,hB e h1,h2⟩) id
def nbK(s k:Prop)(n:Nat):bh→Prop
 |[]=>k
 |(m,_)::r=>match Nat.beq n m with
  |true=>s
  |false=>nbK s k n r
theorem zfO{s k:Prop}{n:Nat}:∀{h:bh},nbK s k n h→(NB h n∧k)∨s
 |[],H=> .inl ⟨NB.nil,H⟩
 |(m,v)::r,H=>by
  unfold nbK at H;cases e:Nat.beq n m with
  |true=>rw[e] at H;exact .inr H
  |false=>rw[e] at H;exact(zfO H).imp (fun⟨h1,h2⟩=>⟨NB.there e h1,h2⟩) id
def zjf{α:Type}(s:Prop)(k:α→Prop):List α→Nat→Prop
 |[],_=>s
 |c::_,0=>k c
 |_::r,j+1=>zjf s k r j
theorem zbO{α:Type}{s:Prop}{k:α→Prop}:∀{cs:List α} {j:Nat},zjf s k cs j→(∃c,cs[j]? =some c∧k c)∨s
 |[],_,H=> .inr H
 |c::_,0,H=> .inl ⟨c,rfl,H⟩
 |_::r,j+1,H=>by simpa using zbO (cs:=r) (j:=j) H
def tkK{α:Type}(s:Prop):Nat→List α→(List α→Prop)→Prop
 |0,_,k=>k []
 |_+1,[],_=>s
 |n+1,c::r,k=>tkK s n r fun es=>k (c::es)
theorem zjY{α:Type}{s:Prop}:∀{n:Nat} {cs:List α} {k:List α→Prop},tkK s n cs k→(n≤cs.length∧k (cs.take n))∨s
 |0,cs,_,H=> .inl ⟨Nat.zero_le _,by cases cs<;>simpa[tkK] using H⟩
 |_+1,[],_,H=> .inr H
 |n+1,c::r,k,H=>by
  rcases zjY (n:=n) (cs:=r) H with⟨h1,h2⟩|h
  ·exact .inl ⟨by simpa using h1,by simpa using h2⟩
  ·exact .inr h
def drK{α:Type}(s:Prop)(n:Nat)(k:List α→Prop):List α→Nat→Prop
 |cs,0=>tkK s n cs k
 |[],_+1=>s
 |_::r,j+1=>drK s n k r j
theorem zf8{α:Type}{s:Prop}{n:Nat}{k:List α→Prop}:∀{cs:List α} {j:Nat},drK s n k cs j→(j+n≤cs.length∧k ((cs.drop j).take n))∨s
 |cs,0,H=>by
  have H:tkK s n cs k:=by cases cs<;>exact H
  simpa using zjY H
 |[],_+1,H=> .inr H
 |_::r,j+1,H=>by
  rcases zf8 (cs:=r) (j:=j) H with⟨h1,h2⟩|h
  ·exact .inl ⟨by simp only[List.length_cons];omega,by simpa using h2⟩
  ·exact .inr h
def ovK{α:Type}(s:Prop):List α→List α→(List α→Prop)→Prop
 |cs,[],k=>k cs
 |[],_::_,_=>s
 |_::cs,e::es,k=>ovK s cs es fun r=>k (e::r)
theorem zjq{α:Type}{s:Prop}:∀{cs es:List α} {k:List α→Prop},ovK s cs es k→(es.length≤cs.length∧k (es++cs.drop es.length))∨s
 |cs,[],_,H=> .inl ⟨Nat.zero_le _,by cases cs<;>simpa[ovK] using H⟩
 |[],_::_,_,H=> .inr H
 |_::cs,e::es,k,H=>by
  rcases zjq (cs:=cs) (es:=es) H with⟨h1,h2⟩|h
  ·exact .inl ⟨by simpa using h1,by simpa using h2⟩
  ·exact .inr h
def spK{α:Type}(s:Prop)(es:List α):List α→Nat→(List α→Prop)→Prop
 |cs,0,k=>ovK s cs es k
 |[],_+1,_=>s
 |c::cs,i+1,k=>spK s es cs i fun r=>k (c::r)
theorem zhj{α:Type}{s:Prop}{es:List α}:∀{cs:List α} {i:Nat} {k:List α→Prop},spK s es cs i k→(i+es.length≤cs.length∧k (splice cs i es))∨s
 |cs,0,k,H=>by
  have H:ovK s cs es k:=by cases cs<;>exact H
  rcases zjq H with⟨h1,h2⟩|h
  ·exact .inl ⟨by omega,by simpa[splice] using h2⟩
  ·exact .inr h
 |[],_+1,_,H=> .inr H
 |c::cs,i+1,k,H=>by
  rcases zhj (cs:=cs) (i:=i) H with⟨h1,h2⟩|h
  ·refine .inl ⟨by simp only[List.length_cons];omega,?_⟩;have:i+1+es.length=(i+es.length)+1:=by omega
   simpa[splice,this] using h2
  ·exact .inr h
def zjX(s:Prop)(v:V)(k:List C→Prop):Prop:=match v with
 | .one c=>k [c]
 | .agg cs=>k cs
 |_=>s
theorem zfW{s:Prop}{v:V}{k:List C→Prop}(H:zjX s v k):(∃cs,v.cells=some cs∧k cs)∨s:=by
 cases v with
 |one c=>exact .inl ⟨_,rfl,H⟩
 |agg cs=>exact .inl ⟨_,rfl,H⟩
 |top=>exact .inr H
 |tup _=>exact .inr H
def zhy{α:Type}(s:Prop)(k:Prop):List α→Nat→Prop
 |[],0=>k
 |_::r,n+1=>zhy s k r n
 |_,_=>s
theorem zbD{α:Type}{s k:Prop}:∀{cs:List α} {n:Nat},zhy s k cs n→(cs.length=n∧k)∨s
 |[],0,H=> .inl ⟨rfl,H⟩
 |_::r,n+1,H=>by
  rcases zbD (cs:=r) (n:=n) H with⟨h1,h2⟩|h
  ·exact .inl ⟨by simp[h1],h2⟩
  ·exact .inr h
 |[],_+1,H=> .inr H
 |_::_,0,H=> .inr H
def zku(s:Prop)(l:bg):List C→List (Nat×Nat×Opd)→(List C→Prop)→Prop
 |cs,[],k=>k cs
 |cs,(off,n,x)::r,k=>evK s l x fun v=>zjX s v fun ds=>zhy s (spK s ds cs off fun cs'=>zku s l cs' r k) ds n
def mpK:List D→(List C→Prop)→Prop
 |[],k=>k []
 |e::r,k=>mpK r fun es=>k (.d e::es)
theorem zdL:∀{ds:List D} {k:List C→Prop},mpK ds k=k (ds.map C.d)
 |[],_=>rfl
 |e::r,k=>by simp only[mpK,zdL,List.map_cons]
def zxI(s:Prop)(l:bg):List Opd→(List Ptr→Prop)→Prop
 |[],k=>k []
 |x::xs,k=>evK s l x fun v=>match v with
  | .one (.ptr p)=>zxI s l xs fun ps=>k (p::ps)
  |_=>s
theorem zic{s:Prop}{l:bg}:∀{xs:List Opd} {k:List Ptr→Prop},zxI s l xs k→(∃ps,Evs l xs (ps.map fun p=> .one (.ptr p))∧k ps)∨s
 |[],_,H=> .inl ⟨[],trivial,H⟩
 |x::xs,k,H=>by
  rcases jZ H with⟨v,hx,H⟩|h
  ·split at H
   ·rcases zic H with⟨ps,h1,h2⟩|h
    ·exact .inl ⟨_::ps,⟨hx,h1⟩,h2⟩
    ·exact .inr h
   ·exact .inr H
  ·exact .inr h
def eqK(s:Prop):List C→List C→(Bool→Prop)→Prop
 |[],[],k=>k true
 | .d (.int a x)::cs,.d (.int b y)::ds,k=>match decide (a=b) with
  |true=>eqK s cs ds fun r=>k (decide (x=y)&&r)
  |false=>s
 |_,_,_=>s
theorem zvb{s:Prop}:∀{cs ds:List C} {k:Bool→Prop},eqK s cs ds k→(∃b,xc cs ds=some b∧k b)∨s:=by
 intro cs ds k H
 fun_induction eqK s cs ds k with
 |case1=>exact .inl ⟨_,rfl,H⟩
 |case2 a x cs b y ds k e ih=>
  have e:=of_decide_eq_true e;rcases ih H with⟨r,h1,h2⟩|h
  ·exact .inl ⟨_,by simp only[xc,e,if_true,h1,Option.map_some],h2⟩
  ·exact .inr h
 |case3 a x cs b y ds k e=>exact .inr H
 |case4=>exact .inr H
def zIB(s:Prop)(op:BinOp)(a:IntKind)(p q:Int)(k:V→Prop):Prop:=match op with
 | .add=>k (.one<|.d<|.int a<|a.wrap (p+q))
 | .sub=>k (.one<|.d<|.int a<|a.wrap (p - q))
 | .mul=>k (.one<|.d<|.int a<|a.wrap (p * q))
 | .and=>k (.one<|.d<|.int a<|a.wrap (BitVec.ofInt a.bits p&&& BitVec.ofInt a.bits q).toNat)
 | .or=>k (.one<|.d<|.int a<|a.wrap (BitVec.ofInt a.bits p|||BitVec.ofInt a.bits q).toNat)
 | .xor=>k (.one<|.d<|.int a<|a.wrap (BitVec.ofInt a.bits p ^^^ BitVec.ofInt a.bits q).toNat)
 | .eql=>k (.one<|.d<|.bool<|decide (p=q))
 | .neq=>k (.one<|.d<|.bool<|decide (¬p=q))
 | .lss=>k (.one<|.d<|.bool<|decide (p < q))
 | .leq=>k (.one<|.d<|.bool<|decide (p≤q))
 | .gtr=>k (.one<|.d<|.bool<|decide (q < p))
 | .geq=>k (.one<|.d<|.bool<|decide (q≤p))
 |_=>s
def zjg{α:Type}(k:Nat→Prop):List α→Nat→Prop
 |[],n=>k n
 |_::r,n=>zjg k r (n+1)
theorem zdc{α:Type}{k:Nat→Prop}:∀{cs:List α} {n:Nat},zjg k cs n=k (n+cs.length)
 |[],_=>rfl
 |_::r,n=>by simp only[zjg];rw[zdc (cs:=r)];congr 1;simp only[List.length_cons];omega
def stO(s:Prop)(l:bg)(A:List Nat)(h:bh)(o:IOp)(k:bg→bh→Prop):Prop:=match o with
 | .mov d x=>evK s l x fun v=>k ((d,v)::l) h
 | .pick d c x y=>evK s l c fun v=>match v with
  | .one (.d<|.bool b)=>match b with
   |true=>evK s l x fun u=>k ((d,u)::l) h
   |false=>evK s l y fun u=>k ((d,u)::l) h
  |_=>s
 | .var d zs=>nbK s (k ((d,.one<|.ptr<|.nm (d * 64) 0 0)::l) ((d * 64,.vars zs.length zs)::h)) (d * 64) h
 | .box d x=>evK s l x fun v=>zjX s v fun cs=>zjg (fun m=>nbK s (k ((d,.one<|.ptr<|.nm (d * 64) 0 0)::l) ((d * 64,.vars m cs)::h)) (d * 64) h) cs 0
 | .build d zs ps=>zku s l zs ps fun cs=>k ((d,.agg cs)::l) h
 | .bslice d sz zs ps=>zku s l zs ps fun cs=>match cs with
  |[]=>s
  |c::r=>zjg (fun m=>nbK s (k ((d,.one<|.sl (d * 64) 0 (m / sz))::l) ((d * 64,.vars sz (c::r))::h)) (d * 64) h) r 1
 | .load d none x=>evK s l x fun v=>match v with
  | .one (.ptr<|.bd cs j)=>zjf s (fun e=>k ((d,.one<|.d e)::l) h) cs j
  | .one (.ptr<|.nm n i j)=>lhK s A h n fun b=>match b with
   | .vars m cs=>zjf s (fun c=>k ((d,.one c)::l) h) cs (i * m+j)
   |_=>s
  |_=>s
 | .load d (some w) x=>evK s l x fun v=>match v with
  | .one (.ptr<|.bd cs j)=>drK s w (fun es=>mpK es fun es=>k ((d,.agg es)::l) h) cs j
  | .one (.ptr<|.nm n i j)=>lhK s A h n fun b=>match b with
   | .vars m cs=>drK s w (fun es=>k ((d,.agg es)::l) h) cs (i * m+j)
   |_=>s
  |_=>s
 | .store n _ x y=>evK s l x fun p=>evK s l y fun w=>zjX s w fun cs=>match p with
  | .one (.ptr<|.nm b i j)=>lhK s A h b fun q=>match q with
   | .vars m ds=>zhy s (spK s cs ds (i * m+j) fun es=>k l ((b,.vars m es)::h)) cs n
   |_=>s
  |_=>s
 | .bin d op x y=>evK s l x fun v=>evK s l y fun w=>match v,w with
  | .one (.d<|.int a p),.one (.d<|.int b q)=>match decide (a=b) with
   |true=>zIB s op a p q fun u=>k ((d,u)::l) h
   |false=>s
  | .one (.d<|.str p),.one (.d<|.str q)=>match op with
   | .eql=>k ((d,.one<|.d<|.bool (p.toList == q.toList))::l) h
   | .neq=>k ((d,.one<|.d<|.bool (!(p.toList == q.toList)))::l) h
   |_=>s
  |_,_=>s
 | .beq d neg x y=>evK s l x fun v=>evK s l y fun w=>match v,w with
  | .one (.d<|.bool p),.one (.d<|.bool q)=>match neg with
   |true=>k ((d,.one<|.d<|.bool (p != q))::l) h
   |false=>k ((d,.one<|.d<|.bool (p == q))::l) h
  |_,_=>s
 | .inv d x=>evK s l x fun v=>match v with
  | .one (.d<|.bool p)=>k ((d,.one<|.d<|.bool (!p))::l) h
  |_=>s
 | .conv d a x=>evK s l x fun v=>match v with
  | .one (.d<|.int _ p)=>k ((d,.one<|.d<|.int a<|a.wrap p)::l) h
  |_=>s
 | .cpl d x=>evK s l x fun v=>match v with
  | .one (.d<|.int a p)=>k ((d,.one<|.d<|.int a<|zhP a p)::l) h
  |_=>s
 | .mkfn d f caps=>zxI s l caps fun ps=>k ((d,.one<|.fn f ps)::l) h
 | .faddr d off x=>evK s l x fun v=>match v with
  | .one (.ptr<|.nm n i j)=>k ((d,.one<|.ptr<|.nm n i (j+off))::l) h
  | .one (.ptr<|.bd cs j)=>k ((d,.one<|.ptr<|.bd cs (j+off))::l) h
  |_=>s
 | .field d off none x=>evK s l x fun v=>match v with
  | .agg cs=>zjf s (fun c=>k ((d,.one c)::l) h) cs off
  |_=>s
 | .field d off (some w) x=>evK s l x fun v=>match v with
  | .agg cs=>drK s w (fun es=>k ((d,.agg es)::l) h) cs off
  |_=>s
 | .ext d x i=>evK s l x fun v=>match v with
  | .tup vs=>zjf s (fun u=>k ((d,u)::l) h) vs i
  |_=>s
 | .len d false x=>evK s l x fun v=>match v with
  | .one (.sl _ _ len)=>k ((d,.one<|.d<|.int .i64 len)::l) h
  | .one .zs=>k ((d,.one<|.d<|.int .i64 0)::l) h
  |_=>s
 | .len d true x=>evK s l x fun v=>match v with
  | .one (.d<|.str b)=>k ((d,.one<|.d<|.int .i64 b.size)::l) h
  |_=>s
 | .nilchk d x=>evK s l x fun v=>match v with
  | .one (.ptr p)=>k ((d,.one<|.ptr p)::l) h
  |_=>s
 | .mm d mx x y=>evK s l x fun v=>evK s l y fun w=>match v,w with
  | .one (.d<|.int a p),.one (.d<|.int b q)=>match decide (a=b) with
   |true=>match mx with
    |true=>k ((d,.one<|.d<|.int a (if p < q then q else p))::l) h
    |false=>k ((d,.one<|.d<|.int a (if q < p then q else p))::l) h
   |false=>s
  |_,_=>s
 | .seql d neg n x y=>evK s l x fun v=>evK s l y fun w=>match v,w with
  | .agg cs,.agg ds=>zhy s (zhy s (eqK s cs ds fun b=>match neg with
   |true=>k ((d,.one<|.d<|.bool (!b))::l) h
   |false=>k ((d,.one<|.d<|.bool b)::l) h) ds n) cs n
  |_,_=>s
 |_=>s
def zNt(l:bg)(A:List Nat)(h:bh)(o:IOp)(l':bg)(h':bh):Prop:=
 ∀(P:Program) (rs:List RO) (dep:Nat) (g:Nat→V) (Q:St→Prop),RG P rs (mk l' h' g) Q→RG P (⟨⟨none,o⟩,dep,A⟩::rs) (mk l h g) Q
theorem zfP{s:Prop}{l:bg}{h:bh}{g:Nat→V}:∀{ps:List (Nat×Nat×Opd)} {zs:List C} {k:List C→Prop},zku s l zs ps k→
  (∃qs cs,(∀h g,ps.map (fun p=>(p.1,p.2.1,(mk l h g).ev p.2.2))=qs)∧za8 zs qs=some cs∧k cs)∨s
 |[],zs,k,H=> .inl ⟨[],zs,fun _ _=>rfl,rfl,by cases zs<;>exact H⟩
 |(off,n,x)::r,zs,k,H=>by
  have H:evK s l x fun v=>zjX s v fun ds=>zhy s (spK s ds zs off fun cs'=>zku s l cs' r k) ds n:=by cases zs<;>exact H
  rcases jZ H with⟨v,hx,H⟩|h
  ·rcases zfW H with⟨ds,hd,H⟩|h
   ·rcases zbD H with⟨hl,H⟩|h
    ·rcases zhj H with⟨hs,H⟩|h
     ·rcases zfP (h:=h) (g:=g) H with⟨qs,cs,h1,h2,h3⟩|h
      ·refine .inl ⟨(off,n,v)::qs,cs,fun h g=>qq hx (h1 h g),?_,h3⟩;simp only[za8,hd,Option.bind_some];rw[if_pos ⟨hl,by omega⟩];exact h2
      ·exact .inr h
     ·exact .inr h
    ·exact .inr h
   ·exact .inr h
  ·exact .inr h
theorem zhO{s:Prop}{l:bg}{A:List Nat}{h:bh}{o:IOp}{k:bg→bh→Prop}(H:stO s l A h o k):(∃l' h',zNt l A h o l' h'∧k l' h')∨s:=by
 cases o with
 |mov d x=>
  rcases jZ H with⟨v,hx,H⟩|e
  ·exact .inl ⟨_,_,fun P rs dep g Q K=>zV hx K,H⟩
  ·exact .inr e
 |pick d c x y=>
  rcases jZ H with⟨v,hc,H⟩|e
  ·split at H
   ·rename_i b;cases b with
    |true=>
     rcases jZ H with⟨u,hx,H⟩|e
     ·exact .inl ⟨_,_,fun P rs dep g Q K=>zkm hc O hx K,H⟩
     ·exact .inr e
    |false=>
     rcases jZ H with⟨u,hx,H⟩|e
     ·exact .inl ⟨_,_,fun P rs dep g Q K=>zAC hc O hx K,H⟩
     ·exact .inr e
   ·exact .inr H
  ·exact .inr e
 |var d zs=>
  rcases zfO H with⟨hn,H⟩|e
  ·exact .inl ⟨_,_,fun P rs dep g Q K=>zNn O O (hN hn) K,H⟩
  ·exact .inr e
 |box d x=>
  rcases jZ H with⟨v,hx,H⟩|e
  ·rcases zfW H with⟨cs,hc,H⟩|e
   ·rw[zdc] at H;rcases zfO H with⟨hn,H⟩|e
    ·exact .inl ⟨_,_,fun P rs dep g Q K=>zMH O hx hc (Nat.zero_add _).symm (hN hn) K,H⟩
    ·exact .inr e
   ·exact .inr e
  ·exact .inr e
 |build d zs ps=>
  rcases zfP (h:=h) (g:=fun _=> .top) H with⟨qs,cs,h1,h2,H⟩|e
  ·exact .inl ⟨_,_,fun P rs dep g Q K=>xl (h1 h g) h2 K,H⟩
  ·exact .inr e
 |bslice d sz zs ps=>
  rcases zfP (h:=h) (g:=fun _=> .top) H with⟨qs,cs,h1,h2,H⟩|e
  ·cases cs with
   |nil=>exact .inr H
   |cons c r=>
    simp only[zdc] at H;rcases zfO H with⟨hn,H⟩|e
    ·exact .inl ⟨_,_,fun P rs dep g Q K=>Kl O (h1 h g) h2 (List.cons_ne_nil _ _) (by rw[List.length_cons,Nat.add_comm]) (hN hn) K,H⟩
    ·exact .inr e
  ·exact .inr e
 |load d ag x=>
  cases ag with
  |none=>
   rcases jZ H with⟨v,hx,H⟩|e
   ·split at H
    ·rcases zbO H with⟨c,hc,H⟩|e
     ·exact .inl ⟨_,_,fun P rs dep g Q K=>YU hx hc K,H⟩
     ·exact .inr e
    ·rcases zhW H with⟨b,hb,H⟩|e
     ·split at H
      ·rcases zbO H with⟨c,hc,H⟩|e
       ·exact .inl ⟨_,_,fun P rs dep g Q K=>qU hx hb O hc K,H⟩
       ·exact .inr e
      ·exact .inr H
     ·exact .inr e
    ·exact .inr H
   ·exact .inr e
  |some w=>
   rcases jZ H with⟨v,hx,H⟩|e
   ·split at H
    ·rcases zf8 H with⟨hl,H⟩|e
     ·rw[zdL] at H;exact .inl ⟨_,_,fun P rs dep g Q K=>zfs hx (if_pos hl) K,H⟩
     ·exact .inr e
    ·rcases zhW H with⟨b,hb,H⟩|e
     ·split at H
      ·rcases zf8 H with⟨hl,H⟩|e
       ·exact .inl ⟨_,_,fun P rs dep g Q K=>yQ hx hb (if_pos hl) K,H⟩
       ·exact .inr e
      ·exact .inr H
     ·exact .inr e
    ·exact .inr H
   ·exact .inr e
 |store n zs x y=>
  rcases jZ H with⟨p,hx,H⟩|e
  ·rcases jZ H with⟨w,hy,H⟩|e
   ·rcases zfW H with⟨cs,hc,H⟩|e
    ·split at H
     ·rcases zhW H with⟨b,hb,H⟩|e
      ·split at H
       ·rcases zbD H with⟨hl,H⟩|e
        ·rcases zhj H with⟨hs,H⟩|e
         ·exact .inl ⟨_,_,fun P rs dep g Q K=>Xx hx hy hc hl hb (if_pos hs) K,H⟩
         ·exact .inr e
        ·exact .inr e
       ·exact .inr H
      ·exact .inr e
     ·exact .inr H
    ·exact .inr e
   ·exact .inr e
  ·exact .inr e
 |bin d op x y=>
  rcases jZ H with⟨v,hx,H⟩|e
  ·rcases jZ H with⟨w,hy,H⟩|e
   ·split at H
    ·split at H
     ·rename_i e;obtain rfl:=of_decide_eq_true e;cases op with
      |add=>exact .inl ⟨_,_,fun P rs dep g Q K=>zxz hx hy K,H⟩
      |sub=>exact .inl ⟨_,_,fun P rs dep g Q K=>zFh hx hy K,H⟩
      |mul=>exact .inl ⟨_,_,fun P rs dep g Q K=>zJF hx hy K,H⟩
      |and=>exact .inl ⟨_,_,fun P rs dep g Q K=>zLw hx hy K,H⟩
      |or=>exact .inl ⟨_,_,fun P rs dep g Q K=>oOr hx hy K,H⟩
      |xor=>exact .inl ⟨_,_,fun P rs dep g Q K=>zMB hx hy K,H⟩
      |eql=>exact .inl ⟨_,_,fun P rs dep g Q K=>zjy hx hy K,H⟩
      |neq=>exact .inl ⟨_,_,fun P rs dep g Q K=>zJ0 hx hy K,H⟩
      |lss=>exact .inl ⟨_,_,fun P rs dep g Q K=>zNl hx hy K,H⟩
      |leq=>exact .inl ⟨_,_,fun P rs dep g Q K=>zMD hx hy K,H⟩
      |gtr=>exact .inl ⟨_,_,fun P rs dep g Q K=>zHs hx hy K,H⟩
      |geq=>exact .inl ⟨_,_,fun P rs dep g Q K=>zJH hx hy K,H⟩
      |_=>exact .inr H
     ·exact .inr H
    ·split at H
     ·exact .inl ⟨_,_,fun P rs dep g Q K=>zGV hx hy K,H⟩
     ·exact .inl ⟨_,_,fun P rs dep g Q K=>zFW hx hy K,H⟩
     ·exact .inr H
    ·exact .inr H
   ·exact .inr e
  ·exact .inr e
 |beq d neg x y=>
  rcases jZ H with⟨v,hx,H⟩|e
  ·rcases jZ H with⟨w,hy,H⟩|e
   ·split at H
    ·cases neg with
     |true=>exact .inl ⟨_,_,fun P rs dep g Q K=>zKK hx hy K,H⟩
     |false=>exact .inl ⟨_,_,fun P rs dep g Q K=>zNs hx hy K,H⟩
    ·exact .inr H
   ·exact .inr e
  ·exact .inr e
 |inv d x=>
  rcases jZ H with⟨v,hx,H⟩|e
  ·split at H
   ·exact .inl ⟨_,_,fun P rs dep g Q K=>zGS hx K,H⟩
   ·exact .inr H
  ·exact .inr e
 |conv d a x=>
  rcases jZ H with⟨v,hx,H⟩|e
  ·split at H
   ·exact .inl ⟨_,_,fun P rs dep g Q K=>zFI hx K,H⟩
   ·exact .inr H
  ·exact .inr e
 |cpl d x=>
  rcases jZ H with⟨v,hx,H⟩|e
  ·split at H
   ·exact .inl ⟨_,_,fun P rs dep g Q K=>zIU hx K,H⟩
   ·exact .inr H
  ·exact .inr e
 |mkfn d f caps=>
  rcases zic H with⟨ps,h1,H⟩|e
  ·exact .inl ⟨_,_,fun P rs dep g Q K=>zGz h1 K,H⟩
  ·exact .inr e
 |faddr d off x=>
  rcases jZ H with⟨v,hx,H⟩|e
  ·split at H
   ·exact .inl ⟨_,_,fun P rs dep g Q K=>zx hx O K,H⟩
   ·exact .inl ⟨_,_,fun P rs dep g Q K=>Y6 hx O K,H⟩
   ·exact .inr H
  ·exact .inr e
 |field d off ag x=>
  cases ag with
  |none=>
   rcases jZ H with⟨v,hx,H⟩|e
   ·split at H
    ·rcases zbO H with⟨c,hc,H⟩|e
     ·exact .inl ⟨_,_,fun P rs dep g Q K=>zC4 hx hc K,H⟩
     ·exact .inr e
    ·exact .inr H
   ·exact .inr e
  |some w=>
   rcases jZ H with⟨v,hx,H⟩|e
   ·split at H
    ·rcases zf8 H with⟨hl,H⟩|e
     ·exact .inl ⟨_,_,fun P rs dep g Q K=>zlD hx (if_pos hl) K,H⟩
     ·exact .inr e
    ·exact .inr H
   ·exact .inr e
 |ext d x i=>
  rcases jZ H with⟨v,hx,H⟩|e
  ·split at H
   ·rcases zbO H with⟨c,hc,H⟩|e
    ·exact .inl ⟨_,_,fun P rs dep g Q K=>zLo hx hc K,H⟩
    ·exact .inr e
   ·exact .inr H
  ·exact .inr e
 |len d st x=>
  cases st with
  |false=>
   rcases jZ H with⟨v,hx,H⟩|e
   ·split at H
    ·exact .inl ⟨_,_,fun P rs dep g Q K=>ze7 hx K,H⟩
    ·exact .inl ⟨_,_,fun P rs dep g Q K=>zE7 hx K,H⟩
    ·exact .inr H
   ·exact .inr e
  |true=>
   rcases jZ H with⟨v,hx,H⟩|e
   ·split at H
    ·exact .inl ⟨_,_,fun P rs dep g Q K=>zlq hx K,H⟩
    ·exact .inr H
   ·exact .inr e
 |nilchk d x=>
  rcases jZ H with⟨v,hx,H⟩|e
  ·split at H
   ·exact .inl ⟨_,_,fun P rs dep g Q K=>ql hx K,H⟩
   ·exact .inr H
  ·exact .inr e
 |mm d mx x y=>
  rcases jZ H with⟨v,hx,H⟩|e
  ·rcases jZ H with⟨w,hy,H⟩|e
   ·split at H
    ·split at H
     ·rename_i e;obtain rfl:=of_decide_eq_true e;cases mx with
      |true=>exact .inl ⟨_,_,fun P rs dep g Q K=>zHE hx hy K,H⟩
      |false=>exact .inl ⟨_,_,fun P rs dep g Q K=>zNG hx hy K,H⟩
     ·exact .inr H
    ·exact .inr H
   ·exact .inr e
  ·exact .inr e
 |seql d neg n x y=>
  rcases jZ H with⟨v,hx,H⟩|e
  ·rcases jZ H with⟨w,hy,H⟩|e
   ·split at H
    ·rcases zbD H with⟨l1,H⟩|e
     ·rcases zbD H with⟨l2,H⟩|e
      ·rcases zvb H with⟨b,hb,H⟩|e
       ·cases neg with
        |true=>exact .inl ⟨_,_,fun P rs dep g Q K=>zHG hx hy l1 l2 hb K,H⟩
        |false=>exact .inl ⟨_,_,fun P rs dep g Q K=>zHw hx hy l1 l2 hb K,H⟩
       ·exact .inr e
      ·exact .inr e
     ·exact .inr e
    ·exact .inr H
   ·exact .inr e
  ·exact .inr e
 |_=>exact .inr H
def stG(s:Prop)(l:bg)(A:List Nat)(h:bh)(o:GOp)(k:bg→bh→Prop):Prop:=match o.g with
 |none=>stO s l A h o.o k
 |some (t,w)=>lkK s (fun v=>
  let sk:Prop:=match o.o.dst with
   |some d=>k ((d,.tup [])::l) h
   |none=>k l h
  match v with
  | .one (.d<|.bool b)=>match b,w with
   |true,true=>stO s l A h o.o k
   |false,false=>stO s l A h o.o k
   |true,false=>sk
   |false,true=>sk
  | .tup []=>sk
  |_=>s) t l
def zpb(l:bg)(A:List Nat)(h:bh)(o:GOp)(l':bg)(h':bh):Prop:=
 ∀(P:Program) (rs:List RO) (dep:Nat) (g:Nat→V) (Q:St→Prop),RG P rs (mk l' h' g) Q→RG P (⟨o,dep,A⟩::rs) (mk l h g) Q
theorem zkI{s:Prop}{l:bg}{A:List Nat}{h:bh}{o:GOp}{k:bg→bh→Prop}(H:stG s l A h o k):(∃l' h',zpb l A h o l' h'∧k l' h')∨s:=by
 obtain⟨gd,o⟩:=o;cases gd with
 |none=>exact zhO H
 |some p=>
  obtain⟨t,w⟩:=p;have skp:∀{b:Bool},Ev l (.t t) (.one<|.d<|.bool b)→b= !w→(match o.dst with
   |some d=>k ((d,.tup [])::l) h
   |none=>k l h)→∃l' h',zpb l A h ⟨some (t,w),o⟩ l' h'∧k l' h':=by
   intro b hx hb K;split at K
   ·rename_i d hd;exact⟨_,_,fun P rs dep g Q K=>zGx hx hb hd K,K⟩
   ·rename_i hd;exact⟨_,_,fun P rs dep g Q K=>zEw hx hb hd K,K⟩
  rcases zfv H with⟨v,hx,H⟩|e
  ·have hx:Ev l (.t t) v:=hx;simp only at H;split at H
   ·split at H
    ·rcases zhO H with⟨l',h',hd,H⟩|e
     ·exact .inl ⟨l',h',fun P rs dep g Q K=>gDo hx O (hd P rs dep g Q K),H⟩
     ·exact .inr e
    ·rcases zhO H with⟨l',h',hd,H⟩|e
     ·exact .inl ⟨l',h',fun P rs dep g Q K=>gDo hx O (hd P rs dep g Q K),H⟩
     ·exact .inr e
    ·exact .inl (skp hx O H)
    ·exact .inl (skp hx O H)
   ·split at H
    ·rename_i d hd;exact .inl ⟨_,_,fun P rs dep g Q K=>zAg hx hd K,H⟩
    ·rename_i hd;exact .inl ⟨_,_,fun P rs dep g Q K=>zmH hx hd K,H⟩
   ·exact .inr H
  ·exact .inr e
def Rn(P:Program)(n:Nat)(Q:Exit→St→Prop)(g:Nat→V):Nat→At→List Fm→bg→bh→Prop
 |0,a,fs,l,h=>Sm P n Q g a fs l h
 |k+1,.code c,fs,l,h=>match c with
  | .skip=>Rn P n Q g k (.out .normal) fs l h
  | .exit i=>Rn P n Q g k (.out<|.exit i) fs l h
  | .ret=>Rn P n Q g k (.out .ret) fs l h
  | .seq x y=>Rn P n Q g k (.code x) (.seq y::fs) l h
  | .block i c=>Rn P n Q g k (.code c) (.blk i::fs) l h
  | .reg L=>Rn P n Q g k (.ops L) fs l h
  | .regd L=>Rn P n Q g k (.ops L) fs l h
  | .cond c x y=>evK (Sm P n Q g (.code<|.cond c x y) fs l h) l c fun v=>match v with
   | .one (.d<|.bool b)=>match b with
    |true=>Rn P n Q g k (.code x) fs l h
    |false=>Rn P n Q g k (.code y) fs l h
   |_=>Sm P n Q g (.code<|.cond c x y) fs l h
  |c=>Sm P n Q g (.code c) fs l h
 |k+1,.ops L,fs,l,h=>match L with
  |[]=>Rn P n Q g k (.out .normal) fs l h
  |r::rs=>stG (Sm P n Q g (.ops (r::rs)) fs l h) l r.A h r.g fun l' h'=>Rn P n Q g k (.ops rs) fs l' h'
 |k+1,.opm L,fs,l,h=>match L with
  |[]=>Rn P n Q g k (.out .normal) fs l h
  |r::rs=>stG (Sm P n Q g (.opm (r::rs)) fs l h) l r.A h r.g fun l' h'=>Rn P n Q g k (.opm rs) fs l' h'
 |k+1,.out e,fs,l,h=>match fs with
  |[]=>Sm P n Q g (.out e) [] l h
  | .seq y::fs=>match e with
   | .normal=>Rn P n Q g k (.code y) fs l h
   | .ret=>Rn P n Q g k (.out .ret) fs l h
   | .exit i=>Rn P n Q g k (.out<|.exit i) fs l h
   |e=>Sm P n Q g (.out e) (.seq y::fs) l h
  | .blk i::fs=>match e with
   | .normal=>Rn P n Q g k (.out .normal) fs l h
   | .ret=>Rn P n Q g k (.out .ret) fs l h
   | .exit j=>match Nat.beq j i with
    |true=>Rn P n Q g k (.out .normal) fs l h
    |false=>Rn P n Q g k (.out<|.exit j) fs l h
   |e=>Sm P n Q g (.out e) (.blk i::fs) l h
  | .stop K::fs=>match e with
   | .normal=>Sm P n Q g (.out .normal) (.stop K::fs) l h
   | .ret=>Rn P n Q g k (.out .ret) fs l h
   | .exit i=>Rn P n Q g k (.out<|.exit i) fs l h
   |e=>Sm P n Q g (.out e) (.stop K::fs) l h
section
variable {P:Program} {n:Nat} {Q:Exit→St→Prop} {g:Nat→V}
theorem Qi:∀{k:Nat} {a:At} {fs:List Fm} {l:bg} {h:bh},Rn P n Q g k a fs l h→Sm P n Q g a fs l h
 |0,a,fs,l,h,H=>by unfold Rn at H;exact H
 |k+1,.code c,fs,l,h,H=>by
  cases c with
  |skip=>exact AW.skip (Qi (k:=k) (a:= .out .normal) H)
  |exit i=>exact AW.exit (Qi (k:=k) (a:= .out (.exit i)) H)
  |ret=>exact AW.ret (Qi (k:=k) (a:= .out .ret) H)
  |seq x y=>exact AW.seq (Qi (k:=k) (a:= .code x) (fs:= .seq y::fs) H)
  |block i c=>exact AW.block (Qi (k:=k) (a:= .code c) (fs:= .blk i::fs) H)
  |reg L=>exact yC (Qi (k:=k) (a:= .ops L) H)
  |regd L=>exact AW.regd (Qi (k:=k) (a:= .ops L) H)
  |cond c x y=>
   rcases jZ H with⟨v,hx,H⟩|e
   ·split at H
    ·rename_i b;cases b with
     |true=>exact zb4 hx O (Qi (k:=k) (a:= .code x) H)
     |false=>exact zaN hx O (Qi (k:=k) (a:= .code y) H)
    ·exact H
   ·exact e
  |_=>exact H
 |k+1,.ops L,fs,l,h,H=>by
  match L,H with
  |[],H=>exact zw (Qi (k:=k) (a:= .out .normal) H)
  |⟨o,dep,A⟩::rs,H=>
   rcases zkI H with⟨l',h',hd,H⟩|e
   ·exact hd P rs dep g _ (Qi (k:=k) (a:= .ops rs) H)
   ·exact e
 |k+1,.opm L,fs,l,h,H=>by
  match L,H with
  |[],H=>exact zk (zw<|Qi (k:=k) (a:= .out .normal) H)
  |⟨o,dep,A⟩::rs,H=>
   rcases zkI H with⟨l',h',hd,H⟩|e
   ·exact zY (hd P [] dep g _<|zw<|Qi (k:=k) (a:= .opm rs) H)
   ·exact e
 |k+1,.out e,fs,l,h,H=>by
  cases fs with
  |nil=>exact H
  |cons f fs=>
   cases f with
   |seq y=>cases e with
    |normal=>exact TQ.qn (Qi (k:=k) (a:= .code y) H)
    |ret=>exact TQ.qr (Qi (k:=k) (a:= .out .ret) H)
    |exit i=>exact TQ.qe (Qi (k:=k) (a:= .out (.exit i)) H)
    |_=>exact H
   |blk i=>cases e with
    |normal=>exact BQ.qn (Qi (k:=k) (a:= .out .normal) H)
    |ret=>exact BQ.qr (Qi (k:=k) (a:= .out .ret) H)
    |exit j=>
     have H:(match Nat.beq j i with
      |true=>Rn P n Q g k (.out .normal) fs l h
      |false=>Rn P n Q g k (.out<|.exit j) fs l h):=H
     cases e:Nat.beq j i with
     |true=>
      rw[e] at H;rw[Nat.eq_of_beq_eq_true e];exact BQ.qe (Qi (k:=k) (a:= .out .normal) H)
     |false=>rw[e] at H;exact zHQ e (Qi (k:=k) (a:= .out (.exit j)) H)
    |_=>exact H
   |stop K=>cases e with
    |normal=>exact H
    |ret=>exact TQ.qr (Qi (k:=k) (a:= .out .ret) H)
    |exit i=>exact TQ.qe (Qi (k:=k) (a:= .out (.exit i)) H)
    |_=>exact H
variable {fs:List Fm} {l:bg} {h:bh}
theorem gC{c:IC}(k:Nat)(H:Rn P n Q g k (.code c) fs l h):AW P n c (QS P n Q fs) (mk l h g):=Qi H
theorem gR{L:List RO}(k:Nat)(H:Rn P n Q g k (.ops L) fs l h):RG P L (mk l h g) (QS P n Q fs .normal):=Qi H
theorem gM{L:List RO}(k:Nat)(H:Rn P n Q g k (.opm L) fs l h):RM P n L (mk l h g) (QS P n Q fs .normal):=Qi H
theorem gO{e:Exit}(k:Nat)(H:Rn P n Q g k (.out e) fs l h):QS P n Q fs e (mk l h g):=Qi H
theorem zkv{t:Nat}{b v:Bool}(e:b=v)(hx:lkO l t=some (.one<|.d<|.bool b)):mk ((t,.one<|.d<|.bool v)::l) h g=mk l h g:=by
 subst e;refine St.ext' (fun k=> ?_) (fun _=>rfl) rfl;show(if k=t then _ else lk l k)=lk l k;split
 ·rename_i e;subst e;exact(zhp hx).symm
 ·rfl
theorem FxC{c:IC}(t:Nat){b v:Bool}(e:b=v)(k:Nat)(H:Rn P n Q g k (.code c) fs ((t,.one<|.d<|.bool v)::l) h)(hx:lkO l t=some (.one<|.d<|.bool b):=by rfl):AW P n c (QS P n Q fs) (mk l h g):=zkv (h:=h) e hx▸gC k H
theorem FxR{L:List RO}(t:Nat){b v:Bool}(e:b=v)(k:Nat)(H:Rn P n Q g k (.ops L) fs ((t,.one<|.d<|.bool v)::l) h)(hx:lkO l t=some (.one<|.d<|.bool b):=by rfl):RG P L (mk l h g) (QS P n Q fs .normal):=zkv (h:=h) e hx▸gR k H
theorem FxM{L:List RO}(t:Nat){b v:Bool}(e:b=v)(k:Nat)(H:Rn P n Q g k (.opm L) fs ((t,.one<|.d<|.bool v)::l) h)(hx:lkO l t=some (.one<|.d<|.bool b):=by rfl):RM P n L (mk l h g) (QS P n Q fs .normal):=zkv (h:=h) e hx▸gM k H
theorem gE{c:IC}{s:St}(H:AW P n c (QS P n Q []) s):AW P n c Q s:=H
theorem gJ{α:Type}{x y:IC}{s:St}(J:α→Prop)(rep:α→St)(K:∀a,J a→AW P n y (QS P n Q fs) (rep a))(H:AW P n x (QS P n Q (.stop (fun s'=>∃a,J a∧Wk (rep a) s')::fs)) s):AW P n (.seq x y) (QS P n Q fs) s:=zoW J rep K H
theorem gL{S R:Type}{f:(S→Option R)→S→Option R}{c:IC}{s:St}(rep:S→St){r:R}{N:Nat}{s0:S}(H:Go.AW.iter f N s0=some r)(h0:Wk (rep s0) s)
  (hb:∀(kb:S→Option R) (s1:S),f kb s1=some r→AW P n c (QS P n Q (.stop (fun s'=>∃s2,kb s2=some r∧Wk (rep s2) s')::fs)) (rep s1)):AW P n (.loop c) (QS P n Q fs) s:=AW.iter rep H h0 hb
end
end Go.AW
