/- The rules by which a region is gone through, operation by operation, on states that are written out. Lemmas. Conditions: none. -/
import Derived.Test.YtpabbbmfcgnhdaaGreatXb
set_option linter.unusedVariables false
namespace Go.AW
def lk:bg→Nat→V
 |[],_=> .top
 |(k,v)::r,n=>if n=k then v else lk r n
def lkB:bh→Nat→Option Blk
 |[],_=>none
 |(k,v)::r,n=>if n=k then some v else lkB r n
def mk(l:bg)(h:bh)(g:Nat→V):St:=⟨lk l,lkB h,g⟩
def Blk.szOf:Blk→Nat
 | .data s _ _ _=>s
 | .vars s _=>s
 | .own ds=>ds.length
def zZ:List Nat→bh→bh
 |[],h=>h
 |A,h=>h.filter fun p=>!A.contains (p.1 / 64)
theorem Zx(A:List Nat)(l:bg)(h:bh)(g:Nat→V):(mk l h g).hide A=mk l (zZ A h) g:=by
 cases A with
 |nil=>rfl
 |cons a A=>
  refine St.ext' (fun _=>rfl) (fun n=> ?_) rfl;show(if (a::A).contains (n / 64) then none else lkB h n)=lkB (h.filter fun p=>!(a::A).contains (p.1 / 64)) n;induction h with
  |nil=>simp[lkB]
  |cons p r ih=>
   obtain⟨k,b⟩:=p;rw[List.filter_cons];by_cases e:n=k
   ·subst e;cases hc:(a::A).contains (n / 64) with
    |true=>rw[hc] at ih;simp only[Bool.not_true,Bool.false_eq_true,if_false,if_true] at ih ⊢;exact ih
    |false=>simp[lkB]
   ·cases hc:(a::A).contains (k / 64) with
    |true=>simp only[Bool.not_true,Bool.false_eq_true,if_false];rw[←ih];simp[lkB,e]
    |false=>simp only[Bool.not_false,if_true,lkB,e,if_false];exact ih
def zhU:List Nat→Nat→Bool
 |[],_=>true
 |a::A,n=>!(Nat.beq a<|Nat.div n 64)&&zhU A n
theorem zhv{n:Nat}:∀{A:List Nat},zhU A n=true→A.contains (n / 64)=false
 |[],_=>rfl
 |a::A,H=>by
  simp only[zhU,Bool.and_eq_true,Bool.not_eq_true'] at H;have:=zhv H.2;have h1:¬n / 64=a:=fun e=>by
   have h2:=H.1;rw[show Nat.div n 64=n / 64 from rfl,e] at h2;simp at h2
  simp only[List.contains_cons,this,Bool.or_false];simpa using h1
theorem zbq{f:Nat→Bool}{n:Nat}(hn:f n=true):∀(h:bh),lkB (h.filter fun p=>f p.1) n=lkB h n
 |[]=>rfl
 |(k,b)::r=>by
  rw[List.filter_cons];by_cases e:n=k
  ·subst e;simp[hn,lkB]
  ·split
   ·simp only[lkB,if_neg e];exact zbq hn r
   ·simp only[lkB,if_neg e];exact zbq hn r
theorem kf{f:Nat→Bool}{n:Nat}:∀{h:bh},lkB h n=none→lkB (h.filter fun p=>f p.1) n=none
 |[],_=>rfl
 |(k,b)::r,H=>by
  simp only[lkB] at H;split at H
  ·cases H
  ·rename_i e;rw[List.filter_cons];split
   ·simp only[lkB,if_neg e];exact kf H
   ·exact kf H
structure RG(P:Program)(L:List RO)(s:St)(Q:St→Prop):Prop where
 out:Ka P L s Q
def lkO:bg→Nat→Option V
 |[],_=>none
 |(k,v)::r,n=>match Nat.beq n k with
  |true=>some v
  |false=>lkO r n
theorem zhp{n:Nat}{v:V}:∀{l:bg},lkO l n=some v→lk l n=v
 |[],h=>by cases h
 |(k,u)::r,h=>by
  unfold lkO at h;unfold lk;split at h
  ·rename_i e;rw[if_pos (Nat.eq_of_beq_eq_true e)];exact Option.some.inj h
  ·rename_i e;rw[if_neg (Nat.ne_of_beq_eq_false e)];exact zhp h
def Ev(l:bg):Opd→V→Prop
 | .t n,v=>lkO l n=some v
 | .c w,v=>w=v
theorem Ev.c{l:bg}{v:V}:Ev l (.c v) v:=rfl
theorem Ev.lk{l:bg}{n:Nat}{v:V}(h:Ev l (.t n) v):lk l n=v:=zhp h
theorem Ev.here{l:bg}{n:Nat}{v:V}:Ev ((n,v)::l) (.t n) v:=by
 have:Nat.beq n n=true:=Nat.beq_refl n;simp only[Ev,lkO,this]
theorem Ev.there{l:bg}{n k:Nat}{v w:V}(h:Nat.beq n k=false)(h':Ev l (.t n) v):Ev ((k,w)::l) (.t n) v:=by
 simp only[Ev,lkO,h];exact h'
theorem Ev.ev{l:bg}{h:bh}{g:Nat→V}{x:Opd}{v:V}(H:Ev l x v):(mk l h g).ev x=v:=by
 cases x with
 |t n=>exact H.lk
 |c w=>exact H
def LB(h:bh)(n:Nat)(b:Blk):Prop:=lkB h n=some b
theorem LB.here{h:bh}{n:Nat}{b:Blk}:LB ((n,b)::h) n b:=by simp[LB,lkB]
theorem LB.there{h:bh}{n k:Nat}{b c:Blk}(e:Nat.beq n k=false)(H:LB h n b):LB ((k,c)::h) n b:=by
 have:n≠k:=fun e'=>by subst e';simp at e
 simp only[LB,lkB,if_neg this];exact H
def NB(h:bh)(n:Nat):Prop:=lkB h n=none
theorem NB.nil{n:Nat}:NB [] n:=rfl
theorem NB.there{h:bh}{n k:Nat}{c:Blk}(e:Nat.beq n k=false)(H:NB h n):NB ((k,c)::h) n:=by
 have:n≠k:=fun e'=>by subst e';simp at e
 simp only[NB,lkB,if_neg this];exact H
theorem hB{A:List Nat}{h:bh}{n:Nat}{b:Blk}(H:zhU A n=true)(K:LB h n b):LB (zZ A h) n b:=by
 have hc:=zhv H;cases A with
 |nil=>exact K
 |cons a A=>
  show lkB (h.filter fun p=>!(a::A).contains (p.1 / 64)) n=some b;rw[zbq (f:=fun k=>!(a::A).contains (k / 64)) (by rw[hc];rfl)];exact K
theorem hN{A:List Nat}{h:bh}{n:Nat}(K:NB h n):NB (zZ A h) n:=by
 cases A with
 |nil=>exact K
 |cons a A=>exact kf (f:=fun k=>!(a::A).contains (k / 64)) K
section
variable {P:Program} {l:bg} {h:bh} {g:Nat→V} {Q:St→Prop} {rs:List RO} {dep:Nat} {A:List Nat} {d:Nat} {x y z:Opd} {v u:V} {k:IntKind} {a b:Int}
theorem zw(H:Q (mk l h g)):RG P [] (mk l h g) Q:=⟨H⟩
theorem qA{o:IOp}(hne:∀d f as,o≠ .callv d f as)(he:AW.ev (mk l (zZ A h) g) o=some ⟨[],some (d,v),[]⟩)(K:RG P rs (mk ((d,v)::l) h g) Q):RG P (⟨⟨none,o⟩,dep,A⟩::rs) (mk l h g) Q:=by
 have:opA P ((mk l h g).hide A) o (fun out=>Ka P rs ((mk l h g).app out) Q):=by
  rw[Zx];unfold opA;split
  ·exact absurd O (hne _ _ _)
  ·rw[he];exact K.out
 exact⟨this⟩
theorem zhe{o:IOp}{n:Nat}{bk:Blk}(hne:∀d f as,o≠ .callv d f as)(he:AW.ev (mk l (zZ A h) g) o=some ⟨[],some (d,v),[(n,bk)]⟩)(K:RG P rs (mk ((d,v)::l) ((n,bk)::h) g) Q):RG P (⟨⟨none,o⟩,dep,A⟩::rs) (mk l h g) Q:=by
 have:opA P ((mk l h g).hide A) o (fun out=>Ka P rs ((mk l h g).app out) Q):=by
  rw[Zx];unfold opA;split
  ·exact absurd O (hne _ _ _)
  ·rw[he];exact K.out
 exact⟨this⟩
theorem xSt{o:IOp}{n:Nat}{bk:Blk}(hne:∀d f as,o≠ .callv d f as)(he:AW.ev (mk l (zZ A h) g) o=some ⟨[],none,[(n,bk)]⟩)(K:RG P rs (mk l ((n,bk)::h) g) Q):RG P (⟨⟨none,o⟩,dep,A⟩::rs) (mk l h g) Q:=by
 have:opA P ((mk l h g).hide A) o (fun out=>Ka P rs ((mk l h g).app out) Q):=by
  rw[Zx];unfold opA;split
  ·exact absurd O (hne _ _ _)
  ·rw[he];exact K.out
 exact⟨this⟩
theorem gDo{o:IOp}{t:Nat}{w e:Bool}(ht:Ev l (.t t) (.one<|.d<|.bool e))(he:e=w)(K:RG P (⟨⟨none,o⟩,dep,A⟩::rs) (mk l h g) Q):RG P (⟨⟨some (t,w),o⟩,dep,A⟩::rs) (mk l h g) Q:=by
 subst he;refine⟨?_⟩;show je P ((mk l h g).hide A) ⟨some (t,e),o⟩ _;have e:((mk l h g).hide A).sl t= .one (.d<|.bool e):=by rw[j9];exact ht.lk
 unfold je;simp only[e,if_true];exact K.out
theorem zGx{o:IOp}{t:Nat}{w e:Bool}(ht:Ev l (.t t) (.one<|.d<|.bool e))(he:e= !w)(hd:o.dst=some d)(K:RG P rs (mk ((d,.tup [])::l) h g) Q):RG P (⟨⟨some (t,w),o⟩,dep,A⟩::rs) (mk l h g) Q:=by
 subst he;refine⟨?_⟩;show je P ((mk l h g).hide A) ⟨some (t,w),o⟩ _;have e:((mk l h g).hide A).sl t= .one (.d<|.bool (!w)):=by rw[j9];exact ht.lk
 unfold je;simp only[e];have:¬(!w)=w:=by cases w<;>simp
 rw[if_neg this];unfold xb;rw[hd];exact K.out
theorem zEw{o:IOp}{t:Nat}{w e:Bool}(ht:Ev l (.t t) (.one<|.d<|.bool e))(he:e= !w)(hd:o.dst=none)(K:RG P rs (mk l h g) Q):RG P (⟨⟨some (t,w),o⟩,dep,A⟩::rs) (mk l h g) Q:=by
 subst he;refine⟨?_⟩;show je P ((mk l h g).hide A) ⟨some (t,w),o⟩ _;have e:((mk l h g).hide A).sl t= .one (.d<|.bool (!w)):=by rw[j9];exact ht.lk
 unfold je;simp only[e];have:¬(!w)=w:=by cases w<;>simp
 rw[if_neg this];unfold xb;rw[hd];exact K.out
theorem zAg{o:IOp}{t:Nat}{w:Bool}(ht:Ev l (.t t) (.tup []))(hd:o.dst=some d)(K:RG P rs (mk ((d,.tup [])::l) h g) Q):RG P (⟨⟨some (t,w),o⟩,dep,A⟩::rs) (mk l h g) Q:=by
 refine⟨?_⟩;show je P ((mk l h g).hide A) ⟨some (t,w),o⟩ _;have e:((mk l h g).hide A).sl t= .tup []:=by rw[j9];exact ht.lk
 unfold je;simp only[e];unfold xb;rw[hd];exact K.out
theorem zmH{o:IOp}{t:Nat}{w:Bool}(ht:Ev l (.t t) (.tup []))(hd:o.dst=none)(K:RG P rs (mk l h g) Q):RG P (⟨⟨some (t,w),o⟩,dep,A⟩::rs) (mk l h g) Q:=by
 refine⟨?_⟩;show je P ((mk l h g).hide A) ⟨some (t,w),o⟩ _;have e:((mk l h g).hide A).sl t= .tup []:=by rw[j9];exact ht.lk
 unfold je;simp only[e];unfold xb;rw[hd];exact K.out
theorem zV(hx:Ev l x v)(K:RG P rs (mk ((d,v)::l) h g) Q):RG P (⟨⟨none,.mov d x⟩,dep,A⟩::rs) (mk l h g) Q:=
 qA (by simp) (by simp[AW.ev,hx.ev]) K
theorem zkm{e:Bool}(hx:Ev l x (.one<|.d<|.bool e))(he:e=true)(hy:Ev l y v)(K:RG P rs (mk ((d,v)::l) h g) Q):RG P (⟨⟨none,.pick d x y z⟩,dep,A⟩::rs) (mk l h g) Q:=by
 subst he;exact qA (by simp) (by simp[AW.ev,hx.ev,hy.ev]) K
theorem zAC{e:Bool}(hx:Ev l x (.one<|.d<|.bool e))(he:e=false)(hy:Ev l z v)(K:RG P rs (mk ((d,v)::l) h g) Q):RG P (⟨⟨none,.pick d x y z⟩,dep,A⟩::rs) (mk l h g) Q:=by
 subst he;exact qA (by simp) (by simp[AW.ev,hx.ev,hy.ev]) K
theorem zNn{zs:List C}{n m:Nat}(hn:d * 64=n)(hm:zs.length=m)(hf:NB (zZ A h) n)(K:RG P rs (mk ((d,.one<|.ptr<|.nm n 0 0)::l) ((n,.vars m zs)::h) g) Q):RG P (⟨⟨none,.var d zs⟩,dep,A⟩::rs) (mk l h g) Q:=by
 subst hn;subst hm;have hf:(mk l (zZ A h) g).hp (d * 64)=none:=hf;exact zhe (by simp) (by simp[AW.ev,hf]) K
theorem zMH{n m:Nat}{cs:List C}(hn:d * 64=n)(hx:Ev l x v)(hc:v.cells=some cs)(hm:cs.length=m)(hf:NB (zZ A h) n)(K:RG P rs (mk ((d,.one<|.ptr<|.nm n 0 0)::l) ((n,.vars m cs)::h) g) Q):RG P (⟨⟨none,.box d x⟩,dep,A⟩::rs) (mk l h g) Q:=by
 subst hn;subst hm;have hf:(mk l (zZ A h) g).hp (d * 64)=none:=hf;exact zhe (by simp) (by simp[AW.ev,hf,hx.ev,hc]) K
theorem zxz(hx:Ev l x (.one<|.d<|.int k a))(hy:Ev l y (.one<|.d<|.int k b))(K:RG P rs (mk ((d,.one<|.d<|.int k<|k.wrap (a+b))::l) h g) Q):RG P (⟨⟨none,.bin d .add x y⟩,dep,A⟩::rs) (mk l h g) Q:=
 qA (by simp) (by simp only[AW.ev,hx.ev,hy.ev,Jl,if_true,evI];rfl) K
theorem zFh(hx:Ev l x (.one<|.d<|.int k a))(hy:Ev l y (.one<|.d<|.int k b))(K:RG P rs (mk ((d,.one<|.d<|.int k<|k.wrap (a - b))::l) h g) Q):RG P (⟨⟨none,.bin d .sub x y⟩,dep,A⟩::rs) (mk l h g) Q:=
 qA (by simp) (by simp only[AW.ev,hx.ev,hy.ev,Jl,if_true,evI];rfl) K
theorem zJF(hx:Ev l x (.one<|.d<|.int k a))(hy:Ev l y (.one<|.d<|.int k b))(K:RG P rs (mk ((d,.one<|.d<|.int k<|k.wrap (a * b))::l) h g) Q):RG P (⟨⟨none,.bin d .mul x y⟩,dep,A⟩::rs) (mk l h g) Q:=
 qA (by simp) (by simp only[AW.ev,hx.ev,hy.ev,Jl,if_true,evI];rfl) K
theorem zLw(hx:Ev l x (.one<|.d<|.int k a))(hy:Ev l y (.one<|.d<|.int k b))(K:RG P rs (mk ((d,.one<|.d<|.int k<|k.wrap (BitVec.ofInt k.bits a&&& BitVec.ofInt k.bits b).toNat)::l) h g) Q):RG P (⟨⟨none,.bin d .and x y⟩,dep,A⟩::rs) (mk l h g) Q:=
 qA (by simp) (by simp only[AW.ev,hx.ev,hy.ev,Jl,if_true,evI];rfl) K
theorem oOr(hx:Ev l x (.one<|.d<|.int k a))(hy:Ev l y (.one<|.d<|.int k b))(K:RG P rs (mk ((d,.one<|.d<|.int k<|k.wrap (BitVec.ofInt k.bits a|||BitVec.ofInt k.bits b).toNat)::l) h g) Q):RG P (⟨⟨none,.bin d .or x y⟩,dep,A⟩::rs) (mk l h g) Q:=
 qA (by simp) (by simp only[AW.ev,hx.ev,hy.ev,Jl,if_true,evI];rfl) K
theorem zMB(hx:Ev l x (.one<|.d<|.int k a))(hy:Ev l y (.one<|.d<|.int k b))(K:RG P rs (mk ((d,.one<|.d<|.int k<|k.wrap (BitVec.ofInt k.bits a ^^^ BitVec.ofInt k.bits b).toNat)::l) h g) Q):RG P (⟨⟨none,.bin d .xor x y⟩,dep,A⟩::rs) (mk l h g) Q:=
 qA (by simp) (by simp only[AW.ev,hx.ev,hy.ev,Jl,if_true,evI];rfl) K
theorem zzP(hx:Ev l x (.one<|.d<|.int k a))(hy:Ev l y (.one<|.d<|.int k b))(h0:¬b=0)(K:RG P rs (mk ((d,.one<|.d<|.int k<|k.wrap<|a.tdiv b)::l) h g) Q):RG P (⟨⟨none,.bin d .quo x y⟩,dep,A⟩::rs) (mk l h g) Q:=
 qA (by simp) (by simp only[AW.ev,hx.ev,hy.ev,Jl,if_true,evI,if_neg h0];rfl) K
theorem zfS(hx:Ev l x (.one<|.d<|.int k a))(hy:Ev l y (.one<|.d<|.int k b))(h0:¬b=0)(K:RG P rs (mk ((d,.one<|.d<|.int k<|a.tmod b)::l) h g) Q):RG P (⟨⟨none,.bin d .rem x y⟩,dep,A⟩::rs) (mk l h g) Q:=
 qA (by simp) (by simp only[AW.ev,hx.ev,hy.ev,Jl,if_true,evI,if_neg h0];rfl) K
theorem zLv{k':IntKind}(hx:Ev l x (.one<|.d<|.int k a))(hy:Ev l y (.one<|.d<|.int k' b))(h0:¬b < 0)(K:RG P rs (mk ((d,.one<|.d<|.int k<|k.wrap (a * 2 ^ (min b.toNat k.bits)))::l) h g) Q):RG P (⟨⟨none,.bin d .shl x y⟩,dep,A⟩::rs) (mk l h g) Q:=by
 by_cases hk:k=k'
 ·subst hk;exact qA (by simp) (by simp only[AW.ev,hx.ev,hy.ev,Jl,if_true,evI,zey,if_neg h0];rfl) K
 ·exact qA (by simp) (by simp only[AW.ev,hx.ev,hy.ev,Jl,if_neg hk,zey,if_neg h0];rfl) K
theorem zgS{k':IntKind}(hx:Ev l x (.one<|.d<|.int k a))(hy:Ev l y (.one<|.d<|.int k' b))(h0:¬b < 0)(K:RG P rs (mk ((d,.one<|.d<|.int k<|a.fdiv<|2 ^ (min b.toNat k.bits))::l) h g) Q):RG P (⟨⟨none,.bin d .shr x y⟩,dep,A⟩::rs) (mk l h g) Q:=by
 by_cases hk:k=k'
 ·subst hk;exact qA (by simp) (by simp only[AW.ev,hx.ev,hy.ev,Jl,if_true,evI,zey,if_neg h0];rfl) K
 ·exact qA (by simp) (by simp only[AW.ev,hx.ev,hy.ev,Jl,if_neg hk,zey,if_neg h0];rfl) K
theorem zjy(hx:Ev l x (.one<|.d<|.int k a))(hy:Ev l y (.one<|.d<|.int k b))(K:RG P rs (mk ((d,.one<|.d<|.bool<|decide (a=b))::l) h g) Q):RG P (⟨⟨none,.bin d .eql x y⟩,dep,A⟩::rs) (mk l h g) Q:=
 qA (by simp) (by simp only[AW.ev,hx.ev,hy.ev,Jl,if_true,evI];rfl) K
theorem zJ0(hx:Ev l x (.one<|.d<|.int k a))(hy:Ev l y (.one<|.d<|.int k b))(K:RG P rs (mk ((d,.one<|.d<|.bool<|decide (¬a=b))::l) h g) Q):RG P (⟨⟨none,.bin d .neq x y⟩,dep,A⟩::rs) (mk l h g) Q:=
 qA (by simp) (by simp only[AW.ev,hx.ev,hy.ev,Jl,if_true,evI];rfl) K
theorem zNl(hx:Ev l x (.one<|.d<|.int k a))(hy:Ev l y (.one<|.d<|.int k b))(K:RG P rs (mk ((d,.one<|.d<|.bool<|decide (a < b))::l) h g) Q):RG P (⟨⟨none,.bin d .lss x y⟩,dep,A⟩::rs) (mk l h g) Q:=
 qA (by simp) (by simp only[AW.ev,hx.ev,hy.ev,Jl,if_true,evI];rfl) K
theorem zMD(hx:Ev l x (.one<|.d<|.int k a))(hy:Ev l y (.one<|.d<|.int k b))(K:RG P rs (mk ((d,.one<|.d<|.bool<|decide (a≤b))::l) h g) Q):RG P (⟨⟨none,.bin d .leq x y⟩,dep,A⟩::rs) (mk l h g) Q:=
 qA (by simp) (by simp only[AW.ev,hx.ev,hy.ev,Jl,if_true,evI];rfl) K
theorem zHs(hx:Ev l x (.one<|.d<|.int k a))(hy:Ev l y (.one<|.d<|.int k b))(K:RG P rs (mk ((d,.one<|.d<|.bool<|decide (b < a))::l) h g) Q):RG P (⟨⟨none,.bin d .gtr x y⟩,dep,A⟩::rs) (mk l h g) Q:=
 qA (by simp) (by simp only[AW.ev,hx.ev,hy.ev,Jl,if_true,evI];rfl) K
theorem zJH(hx:Ev l x (.one<|.d<|.int k a))(hy:Ev l y (.one<|.d<|.int k b))(K:RG P rs (mk ((d,.one<|.d<|.bool<|decide (b≤a))::l) h g) Q):RG P (⟨⟨none,.bin d .geq x y⟩,dep,A⟩::rs) (mk l h g) Q:=
 qA (by simp) (by simp only[AW.ev,hx.ev,hy.ev,Jl,if_true,evI];rfl) K
theorem zGV{s t:ByteArray}(hx:Ev l x (.one<|.d<|.str s))(hy:Ev l y (.one<|.d<|.str t))(K:RG P rs (mk ((d,.one<|.d<|.bool (s.toList == t.toList))::l) h g) Q):RG P (⟨⟨none,.bin d .eql x y⟩,dep,A⟩::rs) (mk l h g) Q:=
 qA (by simp) (by simp only[AW.ev,hx.ev,hy.ev,Jl,evS];rfl) K
theorem zFW{s t:ByteArray}(hx:Ev l x (.one<|.d<|.str s))(hy:Ev l y (.one<|.d<|.str t))(K:RG P rs (mk ((d,.one<|.d<|.bool (!(s.toList == t.toList)))::l) h g) Q):RG P (⟨⟨none,.bin d .neq x y⟩,dep,A⟩::rs) (mk l h g) Q:=
 qA (by simp) (by simp only[AW.ev,hx.ev,hy.ev,Jl,evS];rfl) K
theorem zHE(hx:Ev l x (.one<|.d<|.int k a))(hy:Ev l y (.one<|.d<|.int k b))(K:RG P rs (mk ((d,.one<|.d<|.int k (if a < b then b else a))::l) h g) Q):RG P (⟨⟨none,.mm d true x y⟩,dep,A⟩::rs) (mk l h g) Q:=
 qA (by simp) (by simp[AW.ev,hx.ev,hy.ev]) K
theorem zNG(hx:Ev l x (.one<|.d<|.int k a))(hy:Ev l y (.one<|.d<|.int k b))(K:RG P rs (mk ((d,.one<|.d<|.int k (if b < a then b else a))::l) h g) Q):RG P (⟨⟨none,.mm d false x y⟩,dep,A⟩::rs) (mk l h g) Q:=
 qA (by simp) (by simp[AW.ev,hx.ev,hy.ev]) K
theorem zFI{k':IntKind}(hx:Ev l x (.one<|.d<|.int k' a))(K:RG P rs (mk ((d,.one<|.d<|.int k<|k.wrap a)::l) h g) Q):RG P (⟨⟨none,.conv d k x⟩,dep,A⟩::rs) (mk l h g) Q:=
 qA (by simp) (by simp only[AW.ev,hx.ev]) K
theorem zGS{t:Bool}(hx:Ev l x (.one<|.d<|.bool t))(K:RG P rs (mk ((d,.one<|.d<|.bool (!t))::l) h g) Q):RG P (⟨⟨none,.inv d x⟩,dep,A⟩::rs) (mk l h g) Q:=
 qA (by simp) (by simp[AW.ev,hx.ev]) K
theorem zNs{s t:Bool}(hx:Ev l x (.one<|.d<|.bool s))(hy:Ev l y (.one<|.d<|.bool t))(K:RG P rs (mk ((d,.one<|.d<|.bool (s == t))::l) h g) Q):RG P (⟨⟨none,.beq d false x y⟩,dep,A⟩::rs) (mk l h g) Q:=
 qA (by simp) (by simp only[AW.ev,hx.ev,hy.ev];rfl) K
theorem zKK{s t:Bool}(hx:Ev l x (.one<|.d<|.bool s))(hy:Ev l y (.one<|.d<|.bool t))(K:RG P rs (mk ((d,.one<|.d<|.bool (s != t))::l) h g) Q):RG P (⟨⟨none,.beq d true x y⟩,dep,A⟩::rs) (mk l h g) Q:=
 qA (by simp) (by simp only[AW.ev,hx.ev,hy.ev];rfl) K
theorem qb{sz:Nat}{xs:List (List D)}{n:Nat}(hx:Ev l x (.one<|.d<|.sl sz xs))(hn:xs.length=n)(K:RG P rs (mk ((d,.one<|.d<|.int .i64 n)::l) h g) Q):RG P (⟨⟨none,.len d false x⟩,dep,A⟩::rs) (mk l h g) Q:=
 qA (by simp) (by simp[AW.ev,hx.ev,St.lenOf,hn]) K
theorem zh5{sz:Nat}{xs:List (List D)}{n:Nat}{v0:Value}(hx:Ev l x (.one<|.d<|.both v0<|.sl sz xs))(hn:xs.length=n)(K:RG P rs (mk ((d,.one<|.d<|.int .i64 n)::l) h g) Q):RG P (⟨⟨none,.len d false x⟩,dep,A⟩::rs) (mk l h g) Q:=
 qA (by simp) (by simp[AW.ev,hx.ev,St.lenOf,hn]) K
theorem ze7{n off len:Nat}(hx:Ev l x (.one<|.sl n off len))(K:RG P rs (mk ((d,.one<|.d<|.int .i64 len)::l) h g) Q):RG P (⟨⟨none,.len d false x⟩,dep,A⟩::rs) (mk l h g) Q:=
 qA (by simp) (by simp[AW.ev,hx.ev,St.lenOf]) K
theorem zE7(hx:Ev l x (.one .zs))(K:RG P rs (mk ((d,.one<|.d<|.int .i64 0)::l) h g) Q):RG P (⟨⟨none,.len d false x⟩,dep,A⟩::rs) (mk l h g) Q:=
 qA (by simp) (by simp[AW.ev,hx.ev,St.lenOf]) K
theorem zlq{s:ByteArray}(hx:Ev l x (.one<|.d<|.str s))(K:RG P rs (mk ((d,.one<|.d<|.int .i64 s.size)::l) h g) Q):RG P (⟨⟨none,.len d true x⟩,dep,A⟩::rs) (mk l h g) Q:=
 qA (by simp) (by simp[AW.ev,hx.ev,St.lenOf]) K
def idx{α:Type}(xs:List α)(i:Int):Option α:=if 0≤i then xs[i.toNat]? else none
theorem zaq{α:Type}{xs:List α}{i:Int}{x:α}(H:idx xs i=some x):0≤i∧xs[i.toNat]? =some x∧i.toNat < xs.length:=by
 unfold idx at H;split at H
 ·rename_i h0;exact⟨h0,H,(List.getElem?_eq_some_iff.1 H).1⟩
 ·cases H
theorem jM{α:Type}{f:α→List D}{sz:Nat}{xs:List α}{t:α}(hx:Ev l x (.one<|.d<|.sl sz<|xs.map f))(hy:Ev l y (.one<|.d<|.int k a))(hi:idx xs a=some t)(K:RG P rs (mk ((d,.one<|.ptr<|.bd (f t) 0)::l) h g) Q):RG P (⟨⟨none,.iaddr d sz x y⟩,dep,A⟩::rs) (mk l h g) Q:=by
 obtain⟨h0,h1,_⟩:=zaq hi;exact qA (by simp) (by simp[AW.ev,hx.ev,hy.ev,St.at,h0,h1]) K
theorem zFC{α:Type}{f:α→List D}{sz:Nat}{xs:List α}{t:α}{v0:Value}(hx:Ev l x (.one<|.d<|.both v0<|.sl sz<|xs.map f))(hy:Ev l y (.one<|.d<|.int k a))(hi:idx xs a=some t)(K:RG P rs (mk ((d,.one<|.ptr<|.bd (f t) 0)::l) h g) Q):RG P (⟨⟨none,.iaddr d sz x y⟩,dep,A⟩::rs) (mk l h g) Q:=by
 obtain⟨h0,h1,_⟩:=zaq hi;exact qA (by simp) (by simp[AW.ev,hx.ev,hy.ev,St.at,h0,h1]) K
theorem zbn{α:Type}{f:α→List D}{sz n len:Nat}{own:Bool}{cp:Option Nat}{xs:List α}{t:α}(hx:Ev l x (.one<|.sl n 0 len))(hy:Ev l y (.one<|.d<|.int k a))(hb:LB (zZ A h) n (.data sz (xs.map f) own cp))(hl:xs.length=len)(hi:idx xs a=some t)
  (K:RG P rs (mk ((d,.one<|.ptr<|.nm n a.toNat 0)::l) h g) Q):RG P (⟨⟨none,.iaddr d sz x y⟩,dep,A⟩::rs) (mk l h g) Q:=by
 obtain⟨h0,h1,h2⟩:=zaq hi;have hb:(mk l (zZ A h) g).hp n=some (.data sz (xs.map f) own cp):=hb;have hz:(mk l (zZ A h) g).blkSz n=some sz:=by unfold St.blkSz;rw[hb]
 refine qA (by simp) ?_ K;simp only[AW.ev,hx.ev,hy.ev,St.at];rw[if_pos ⟨hz,h0,by omega⟩];simp
theorem Y6{off j m:Nat}{cs:List D}(hx:Ev l x (.one<|.ptr<|.bd cs j))(hm:j+off=m)(K:RG P rs (mk ((d,.one<|.ptr<|.bd cs m)::l) h g) Q):RG P (⟨⟨none,.faddr d off x⟩,dep,A⟩::rs) (mk l h g) Q:=by
 subst hm;exact qA (by simp) (by simp[AW.ev,hx.ev]) K
theorem zx{off n i j m:Nat}(hx:Ev l x (.one<|.ptr<|.nm n i j))(hm:j+off=m)(K:RG P rs (mk ((d,.one<|.ptr<|.nm n i m)::l) h g) Q):RG P (⟨⟨none,.faddr d off x⟩,dep,A⟩::rs) (mk l h g) Q:=by
 subst hm;exact qA (by simp) (by simp[AW.ev,hx.ev]) K
theorem ql{p:Ptr}(hx:Ev l x (.one<|.ptr p))(K:RG P rs (mk ((d,.one<|.ptr p)::l) h g) Q):RG P (⟨⟨none,.nilchk d x⟩,dep,A⟩::rs) (mk l h g) Q:=
 qA (by simp) (by simp[AW.ev,hx.ev]) K
theorem YU{cs:List D}{j:Nat}{e:D}(hx:Ev l x (.one<|.ptr<|.bd cs j))(he:cs[j]? =some e)(K:RG P rs (mk ((d,.one<|.d e)::l) h g) Q):RG P (⟨⟨none,.load d none x⟩,dep,A⟩::rs) (mk l h g) Q:=by
 have hlt:j < cs.length:=(List.getElem?_eq_some_iff.1 he).1;have hd:(cs.drop j).take 1=[e]:=by
  have h1:=(List.getElem?_eq_some_iff.1 he).2;rw[List.drop_eq_getElem_cons hlt,h1];rfl
 exact qA (by simp) (by simp only[AW.ev,hx.ev,St.rd];rw[if_pos (by omega),hd];rfl) K
theorem zfs{cs:List D}{j n:Nat}{es:List C}(hx:Ev l x (.one<|.ptr<|.bd cs j))(he:(if j+n≤cs.length then some (((cs.drop j).take n).map C.d) else none)=some es)(K:RG P rs (mk ((d,.agg es)::l) h g) Q):RG P (⟨⟨none,.load d (some n) x⟩,dep,A⟩::rs) (mk l h g) Q:=
 qA (by simp) (by simp only[AW.ev,hx.ev,St.rd];rw[he];rfl) K
theorem qU{n i j m q:Nat}{cs:List C}{c:C}(hx:Ev l x (.one<|.ptr<|.nm n i j))(hb:LB (zZ A h) n (.vars m cs))(hq:i * m+j=q)(hc:cs[q]? =some c)(K:RG P rs (mk ((d,.one c)::l) h g) Q):RG P (⟨⟨none,.load d none x⟩,dep,A⟩::rs) (mk l h g) Q:=by
 subst hq;have hb:(mk l (zZ A h) g).hp n=some (.vars m cs):=hb;have hlt:i * m+j < cs.length:=(List.getElem?_eq_some_iff.1 hc).1;have hd:(cs.drop (i * m+j)).take 1=[c]:=by
  have h1:=(List.getElem?_eq_some_iff.1 hc).2;rw[List.drop_eq_getElem_cons hlt,h1];rfl
 exact qA (by simp) (by simp only[AW.ev,hx.ev,St.rd,hb];rw[if_pos (by omega),hd];rfl) K
theorem yQ{n i j m k':Nat}{cs es:List C}(hx:Ev l x (.one<|.ptr<|.nm n i j))(hb:LB (zZ A h) n (.vars m cs))(hc:(if i * m+j+k'≤cs.length then some ((cs.drop (i * m+j)).take k') else none)=some es)(K:RG P rs (mk ((d,.agg es)::l) h g) Q):RG P (⟨⟨none,.load d (some k') x⟩,dep,A⟩::rs) (mk l h g) Q:=by
 have hb:(mk l (zZ A h) g).hp n=some (.vars m cs):=hb;exact qA (by simp) (by simp only[AW.ev,hx.ev,St.rd,hb];rw[hc];rfl) K
theorem Xx{n i j m k':Nat}{zs:List D}{cs ds es:List C}(hx:Ev l x (.one<|.ptr<|.nm n i j))(hy:Ev l y v)(hv:v.cells=some ds)(hl:ds.length=k')(hb:LB (zZ A h) n (.vars m cs))
  (hc:(if i * m+j+ds.length≤cs.length then some (splice cs (i * m+j) ds) else none)=some es) (K:RG P rs (mk l ((n,.vars m es)::h) g) Q):RG P (⟨⟨none,.store k' zs x y⟩,dep,A⟩::rs) (mk l h g) Q:=by
 have hb:(mk l (zZ A h) g).hp n=some (.vars m cs):=hb;split at hc
 ·rename_i hle;cases hc;exact xSt (by simp) (by simp only[AW.ev,hx.ev,hy.ev,hv,Option.bind_some,hl,if_true,St.wr,hb];rw[hl] at hle;rw[if_pos hle];rfl) K
 ·cases hc
theorem zC4{cs:List C}{off:Nat}{c:C}(hx:Ev l x (.agg cs))(hc:cs[off]? =some c)(K:RG P rs (mk ((d,.one c)::l) h g) Q):RG P (⟨⟨none,.field d off none x⟩,dep,A⟩::rs) (mk l h g) Q:=
 qA (by simp) (by simp[AW.ev,hx.ev,hc]) K
theorem zlD{cs es:List C}{off n:Nat}(hx:Ev l x (.agg cs))(hc:(if off+n≤cs.length then some ((cs.drop off).take n) else none)=some es)(K:RG P rs (mk ((d,.agg es)::l) h g) Q):RG P (⟨⟨none,.field d off (some n) x⟩,dep,A⟩::rs) (mk l h g) Q:=by
 split at hc
 ·rename_i hle;cases hc;exact qA (by simp) (by simp[AW.ev,hx.ev,hle]) K
 ·cases hc
theorem zLo{vs:List V}{i:Nat}(hx:Ev l x (.tup vs))(hc:vs[i]? =some v)(K:RG P rs (mk ((d,v)::l) h g) Q):RG P (⟨⟨none,.ext d x i⟩,dep,A⟩::rs) (mk l h g) Q:=
 qA (by simp) (by simp[AW.ev,hx.ev,hc]) K
theorem zfw{α:Type}{f:α→List D}{n i j sz:Nat}{cp:Option Nat}{own:Bool}{xs:List α}{t:α}{e:D}(hx:Ev l x (.one<|.ptr<|.nm n i j))(hb:LB (zZ A h) n (.data sz (xs.map f) own cp))(hi:xs[i]? =some t)(he:(f t)[j]? =some e)(hf:(e.flat||!own)=true)
  (K:RG P rs (mk ((d,.one<|.d e)::l) h g) Q):RG P (⟨⟨none,.load d none x⟩,dep,A⟩::rs) (mk l h g) Q:=by
 have hb:(mk l (zZ A h) g).hp n=some (.data sz (xs.map f) own cp):=hb;have hlt:j < (f t).length:=(List.getElem?_eq_some_iff.1 he).1;have hd:((f t).drop j).take 1=[e]:=by
  have h1:=(List.getElem?_eq_some_iff.1 he).2;rw[List.drop_eq_getElem_cons hlt,h1];rfl
 have hc:ldC own n e= .d e:=by unfold ldC;rw[if_pos hf]
 exact qA (by simp) (by simp only[AW.ev,hx.ev,St.rd,hb,List.getElem?_map,hi,Option.map_some,Option.bind_some];rw[if_pos (by omega),hd];simp only[List.map_cons,List.map_nil,hc,Option.bind_some];rfl) K
theorem zfG{α:Type}{f:α→List D}{n i j m sz:Nat}{zs:List D}{cs:List C}{own:Bool}{cp:Option Nat}{xs:List α}{t t':α}{es:List D}(hx:Ev l x (.one<|.ptr<|.nm n i j))(hy:Ev l y v)(hv:v.cells=some cs)(hl:cs.length=m)(hb:LB (zZ A h) n (.data sz (xs.map f) own cp))
  (hi:xs[i]? =some t) (he:xQ own zs cs=some es) (hc:(if j+m≤(f t).length then some (splice (f t) j es) else none)=some (f t')) (K:RG P rs (mk l ((n,.data sz ((xs.set i t').map f) own cp)::h) g) Q):RG P (⟨⟨none,.store m zs x y⟩,dep,A⟩::rs) (mk l h g) Q:=by
 have hb:(mk l (zZ A h) g).hp n=some (.data sz (xs.map f) own cp):=hb;split at hc
 ·rename_i hle;have heq:=Option.some.inj hc;rw[List.map_set] at K;refine xSt (by simp) ?_ K;simp only[AW.ev,hx.ev,hy.ev,hv,Option.bind_some,hl,if_true,St.wr,hb,List.getElem?_map,hi,Option.map_some,he];rw[if_pos hle];simp only[Option.map_some];rw[heq]
 ·cases hc
theorem zHw{n:Nat}{cs ds:List C}{b:Bool}(hx:Ev l x (.agg cs))(hy:Ev l y (.agg ds))(h1:cs.length=n)(h2:ds.length=n)(he:xc cs ds=some b)(K:RG P rs (mk ((d,.one<|.d<|.bool b)::l) h g) Q):RG P (⟨⟨none,.seql d false n x y⟩,dep,A⟩::rs) (mk l h g) Q:=
 qA (by simp) (by simp[AW.ev,hx.ev,hy.ev,h1,h2,he]) K
theorem zHG{n:Nat}{cs ds:List C}{b:Bool}(hx:Ev l x (.agg cs))(hy:Ev l y (.agg ds))(h1:cs.length=n)(h2:ds.length=n)(he:xc cs ds=some b)(K:RG P rs (mk ((d,.one<|.d<|.bool (!b))::l) h g) Q):RG P (⟨⟨none,.seql d true n x y⟩,dep,A⟩::rs) (mk l h g) Q:=
 qA (by simp) (by simp[AW.ev,hx.ev,hy.ev,h1,h2,he]) K
theorem ze4{α:Type}{f:α→List D}{neg:Bool}{sz:Nat}{xs:List α}(hx:Ev l x (.one<|.d<|.sl sz<|xs.map f))(hl:¬xs.length=0)(K:RG P rs (mk ((d,.one<|.d<|.bool neg)::l) h g) Q):RG P (⟨⟨none,.isnil d neg x⟩,dep,A⟩::rs) (mk l h g) Q:=by
 have:¬xs=[]:=fun e=>hl (by rw[e];rfl);exact qA (by simp) (by simp[AW.ev,hx.ev,this]) K
theorem zcj{α:Type}{f:α→List D}{neg:Bool}{sz:Nat}{xs:List α}(hx:Ev l x (.one<|.d<|.sl sz<|xs.map f))(hl:xs.length=0)(K:RG P rs (mk ((d,.one .anyb)::l) h g) Q):RG P (⟨⟨none,.isnil d neg x⟩,dep,A⟩::rs) (mk l h g) Q:=by
 have:xs=[]:=List.eq_nil_of_length_eq_zero hl;exact qA (by simp) (by simp[AW.ev,hx.ev,this]) K
def Evs(l:bg):List Opd→List V→Prop
 |[],[]=>True
 |x::xs,v::vs=>Ev l x v∧Evs l xs vs
 |_,_=>False
theorem Evs.ev:∀{xs:List Opd} {vs:List V},Evs l xs vs→xs.map (mk l h g).ev=vs
 |[],[],_=>rfl
 |x::xs,v::vs,H=>by simp only[List.map_cons];rw[H.1.ev,Evs.ev H.2]
 |[],_::_,H=>H.elim
 |_::_,[],H=>H.elim
theorem Evs.nil:Evs l [] []:=trivial
theorem Evs.cons{xs:List Opd}{vs:List V}(h1:Ev l x v)(h2:Evs l xs vs):Evs l (x::xs) (v::vs):=⟨h1,h2⟩
def VD(h:bh)(v:V)(x:D):Prop:=AW.vD (mk [] h fun _=> .top) v=some x
theorem VD.plain{y:D}:VD h (.one<|.d y) y:=rfl
theorem VD.sub{n:Nat}{y:D}:VD h (.one<|.sub n y) y:=rfl
theorem VD.agg{cs:List C}{ys:List D}(H:cs=ys.map C.d):VD h (.agg cs) (.agg ys):=by
 subst H;have:(ys.map C.d).mapM (AW.cD0 (mk [] h fun _=> .top))=some ys:=by
  induction ys with
  |nil=>rfl
  |cons y ys ih=>simp only[List.map_cons,List.mapM_cons,Option.pure_def,Option.bind_eq_bind];rw[ih];rfl
 show Option.map D.agg _=_;rw[this];rfl
theorem VD.sl{n sz:Nat}{len:Nat}{xs:List (List D)}{own:Bool}{cp:Option Nat}(hb:LB h n (.data sz xs own cp))(hl:xs.length=len):VD h (.one<|.sl n 0 len) (.sl sz xs):=by
 have hb:(mk [] h fun _=>V.top).hp n=some (.data sz xs own cp):=hb;show AW.cD0 (mk [] h fun _=>V.top) (.sl n 0 len)=some (.sl sz xs);unfold AW.cD0;simp only[hb,hl,and_self,if_true]
theorem VD.vars{n len:Nat}{cs:List C}(ys:List D)(hb:LB h n (.vars 1 cs))(hl:cs.length=len)(hd:cs=ys.map C.d):VD h (.one<|.sl n 0 len) (.sl 1 (ys.map fun d=>[d])):=by
 subst hd;have hb:(mk [] h fun _=>V.top).hp n=some (.vars 1<|ys.map C.d):=hb;have e:∀ys:List D,zc9 (ys.map C.d)=some ys:=fun ys=>by
  induction ys with
  |nil=>rfl
  |cons y ys ih=>simp[zc9,ih]
 show AW.cD0 (mk [] h fun _=>V.top) (.sl n 0 len)=some _;unfold AW.cD0;simp only[hb,←hl,and_self,if_true,e,Option.map_some]
def CDs(h:bh):List C→List D→Prop
 |[],[]=>True
 |c::cs,x::xs=>VD h (.one c) x∧AW.cD0 (mk [] h fun _=> .top) c=some x∧CDs h cs xs
 |_,_=>False
theorem CDs.nil:CDs h [] []:=trivial
theorem CDs.plain{cs:List C}{ys:List D}{y:D}(H:CDs h cs ys):CDs h (.d y::cs) (y::ys):=⟨rfl,rfl,H⟩
theorem CDs.sub{cs:List C}{ys:List D}{y:D}{n:Nat}(H:CDs h cs ys):CDs h (.sub n y::cs) (y::ys):=⟨rfl,rfl,H⟩
theorem CDs.zs{cs:List C}{ys:List D}(H:CDs h cs ys):CDs h (.zs::cs) (.sl 0 []::ys):=⟨rfl,rfl,H⟩
theorem CDs.sl{cs:List C}{ys:List D}{n sz len:Nat}{xs:List (List D)}{own:Bool}{cp:Option Nat}(hb:LB h n (.data sz xs own cp))(hl:xs.length=len)(H:CDs h cs ys):CDs h (.sl n 0 len::cs) (.sl sz xs::ys):=
 ⟨VD.sl hb hl,VD.sl hb hl,H⟩
theorem VD.aggs{cs:List C}{ys:List D}(H:CDs h cs ys):VD h (.agg cs) (.agg ys):=by
 have:cs.mapM (AW.cD0 (mk [] h fun _=> .top))=some ys:=by
  induction cs generalizing ys with
  |nil=>cases ys with
   |nil=>rfl
   |cons _ _=>exact H.elim
  |cons c cs ih=>cases ys with
   |nil=>exact H.elim
   |cons y ys=>
    simp only[List.mapM_cons,Option.pure_def,Option.bind_eq_bind];rw[H.2.1,ih H.2.2];rfl
 show Option.map D.agg _=_;rw[this];rfl
def VDs(h:bh):List V→List D→Prop
 |[],[]=>True
 |v::vs,x::xs=>VD h v x∧VDs h vs xs
 |_,_=>False
theorem VDs.nil:VDs h [] []:=trivial
theorem VDs.cons{vs:List V}{e:D}{es:List D}(h1:VD h v e)(h2:VDs h vs es):VDs h (v::vs) (e::es):=⟨h1,h2⟩
theorem VDs.eq:∀{vs:List V} {xs:List D},VDs h vs xs→vs.mapM (AW.vD<|mk l h g)=some xs
 |[],[],_=>rfl
 |v::vs,x::xs,H=>by
  have h1:AW.vD (mk l h g) v=some x:=by
   have:=H.1;unfold VD at this;rw[zii (s:=mk [] h fun _=> .top) (s':=mk l h g) rfl];exact this
  simp only[List.mapM_cons,Option.pure_def,Option.bind_eq_bind];rw[h1,VDs.eq H.2];rfl
 |[],_::_,H=>H.elim
 |_::_,[],H=>H.elim
def Cl(f:V)(g:FuncId)(us:List V):Prop:=X0 f=some (g,us)
theorem Cl.fn{f:FuncId}{ps:List Ptr}:Cl (.one<|.fn f ps) f (ps.map fun p=> .one (.ptr p)):=rfl
theorem zge{cs:List D}:VD h (.one<|.ptr<|.bd cs 0) (.ptr cs):=rfl
theorem zgc{n m:Nat}{cs:List C}{ys:List D}(hb:LB h n (.vars m cs))(H:CDs h cs ys):VD h (.one<|.ptr<|.nm n 0 0) (.ptr ys):=by
 have hb:(mk [] h fun _=>V.top).hp n=some (.vars m cs):=hb;have H:=VD.aggs H;have e:cs.mapM (AW.cD0 (mk [] h fun _=> .top))=some ys:=by
  have H:Option.map D.agg _=_:=H;rw[omi] at H;obtain⟨zs,h1,h2⟩:=H;cases h2;exact h1
 show AW.pD (mk [] h fun _=> .top) (.nm n 0 0)=some (.ptr ys);unfold AW.pD;simp only[hb,e,Option.map_some]
def PDs(h:bh):List Ptr→List D→Prop
 |[],[]=>True
 |p::ps,x::xs=>VD h (.one<|.ptr p) x∧PDs h ps xs
 |_,_=>False
theorem PDs.nil:PDs h [] []:=trivial
theorem PDs.cons{p:Ptr}{ps:List Ptr}{e:D}{es:List D}(h1:VD h (.one<|.ptr p) e)(h2:PDs h ps es):PDs h (p::ps) (e::es):=⟨h1,h2⟩
theorem VD.fn{f:FuncId}{ps:List Ptr}{es:List D}(H:PDs h ps es):VD h (.one<|.fn f ps) (.fn f es):=by
 have key:∀(ps:List Ptr) (es:List D),PDs h ps es→ps.mapM (AW.pD (mk [] h fun _=> .top))=some es:=by
  intro ps;induction ps with
  |nil=>intro es H;cases es with|nil=>rfl|cons _ _=>exact H.elim
  |cons p ps ih=>
   intro es H;cases es with
   |nil=>exact H.elim
   |cons e es=>
    have h1:AW.pD (mk [] h fun _=> .top) p=some e:=H.1;simp only[List.mapM_cons,Option.pure_def,Option.bind_eq_bind,h1,Option.bind_some,ih es H.2]
 show Option.map (D.fn f) _=some (.fn f es);rw[key ps es H];rfl
theorem zpa{f:FuncId}{fo:Opd}{fv:V}{us:List V}{args:List Opd}{vs:List V}{ds rs':List D}{u:V}(hf0:Ev l fo fv)(hcl:Cl fv f us)(hf:Fn P f (lent ds) true rs')(ha:Evs l args vs)(hd:VDs (zZ A h) (vs++us) ds)(hu:XK rs'=u)(K:RG P rs (mk ((d,u)::l) h g) Q):
  RG P (⟨⟨none,.callv d fo args⟩,dep,A⟩::rs) (mk l h g) Q:=by
 subst hu;have:callB P ((mk l h g).hide A) d (((mk l h g).hide A).ev fo) (args.map ((mk l h g).hide A).ev) (fun out=>Ka P rs ((mk l h g).app out) Q):=by
  rw[Zx,ha.ev,hf0.ev];refine .inl ?_;unfold callB0;rw[qB];refine⟨(f,us),hcl,?_⟩;rw[qB];refine⟨ds,hd.eq,true,false,rs',hf,?_⟩;simp only[Bool.false_eq_true,if_false,true_or,true_and];exact K.out
 exact⟨this⟩
def zj4(d:Nat):bh→Bool
 |[]=>true
 |(n,_)::r=>Nat.beq (Nat.div n 64) d&&zj4 d r
theorem zjs{d:Nat}{bs:bh}(H:zj4 d bs=true):(((d * 64+63)::bs.map (·.1)).all fun n=>n / 64 == d)=true:=by
 simp only[List.all_cons,Bool.and_eq_true,beq_iff_eq];refine⟨by omega,?_⟩;induction bs with
 |nil=>rfl
 |cons p r ih=>
  obtain⟨n,b⟩:=p;simp only[zj4,Bool.and_eq_true] at H;simp only[List.map_cons,List.all_cons,Bool.and_eq_true,beq_iff_eq];exact⟨Nat.eq_of_beq_eq_true H.1,ih H.2⟩
theorem zfE{f:FuncId}{fo:Opd}{fv:V}{us:List V}{args:List Opd}{vs:List V}{ds rs':List D}{u:V}(hf0:Ev l fo fv)(hcl:Cl fv f us)(hf:Fn P f (lent ds) false rs')(ha:Evs l args vs)(hd:VDs (zZ A h) (vs++us) ds)(hbr:(vs++us).all V.bare=true)(hu:XK rs'=u)(K:RG P rs (mk ((d,u)::l) h g) Q):
  RG P (⟨⟨none,.callv d fo args⟩,dep,A⟩::rs) (mk l h g) Q:=by
 subst hu;have:callB P ((mk l h g).hide A) d (((mk l h g).hide A).ev fo) (args.map ((mk l h g).hide A).ev) (fun out=>Ka P rs ((mk l h g).app out) Q):=by
  rw[Zx,ha.ev,hf0.ev];refine .inl ?_;unfold callB0;rw[qB];refine⟨(f,us),hcl,?_⟩;rw[qB];refine⟨ds,hd.eq,false,false,rs',hf,?_⟩;simp only[Bool.false_eq_true,if_false,hbr,or_true,true_and];exact K.out
 exact⟨this⟩
theorem zj8{f:FuncId}{fo:Opd}{fv:V}{us:List V}{args:List Opd}{vs:List V}{ds rs':List D}{u:V}{bs:bh}(hf0:Ev l fo fv)(hcl:Cl fv f us)(hf:Fn P f (lent ds) true rs')(ha:Evs l args vs)(hd:VDs (zZ A h) (vs++us) ds)(hu:ZP (d * 64) rs'=(u,bs))
  (hn0:zj4 d bs=true) (hfr:qp (mk [] (zZ A h) fun _=> .top) ((d * 64+63)::bs.map (·.1))) (K:RG P rs (mk ((d,u)::l) (bs.reverse++h) g) Q):
  RG P (⟨⟨none,.callv d fo args⟩,dep,A⟩::rs) (mk l h g) Q:=by
 have hn:(((d * 64+63)::bs.map (·.1)).all fun n=>n / 64 == d)=true:=zjs hn0;have hap:∀(bs:bh) (s:St) (h0:bh),s.hp=lkB h0→(s.blks bs).hp=lkB (bs.reverse++h0)∧(s.blks bs).sl=s.sl∧(s.blks bs).gh=s.gh:=by
  intro bs;induction bs with
  |nil=>intro s h0 hs;exact⟨by simpa[St.blks] using hs,rfl,rfl⟩
  |cons p bs ih=>
   intro s h0 hs;obtain⟨n,b⟩:=p;have h1:(s.blk n b).hp=lkB ((n,b)::h0):=by
    funext k;simp only[St.blk,lkB,hs]
   obtain⟨e1,e2,e3⟩:=ih (s.blk n b) ((n,b)::h0) h1;refine⟨?_,e2,e3⟩;show((s.blk n b).blks bs).hp=_;rw[e1];simp
 have hfr':qp (mk l (zZ A h) g) ((d * 64+63)::bs.map (·.1)):=by
  have gen:∀ns,qp (mk [] (zZ A h) fun _=> .top) ns→qp (mk l (zZ A h) g) ns:=by
   intro ns;induction ns with
   |nil=>intro _;trivial
   |cons n ns ih=>intro H;exact⟨H.1,H.2.1,ih H.2.2⟩
  exact gen _ hfr
 have hst:(mk l h g).app ⟨[],some (d,u),bs⟩=mk ((d,u)::l) (bs.reverse++h) g:=by
  obtain⟨e1,e2,e3⟩:=hap bs (mk l h g) h rfl;refine St.ext' (fun t=> ?_) (fun n=> ?_) ?_
  ·show(if t=d then u else((mk l h g).blks bs).sl t)=lk ((d,u)::l) t;rw[e2];rfl
  ·show((mk l h g).blks bs).hp n=_;rw[e1];rfl
  ·show((mk l h g).blks bs).gh=_;rw[e3];rfl
 have:callB P ((mk l h g).hide A) d (((mk l h g).hide A).ev fo) (args.map ((mk l h g).hide A).ev) (fun out=>Ka P rs ((mk l h g).app out) Q):=by
  rw[Zx,ha.ev,hf0.ev];refine .inl ?_;unfold callB0;rw[qB];refine⟨(f,us),hcl,?_⟩;rw[qB];refine⟨ds,hd.eq,true,true,rs',hf,?_⟩;simp only[if_true,true_and,hu];exact⟨hn,hfr',by rw[hst];exact K.out⟩
 exact⟨this⟩
theorem Kl{sz m q:Nat}{zs:List C}{ps:List (Nat×Nat×Opd)}{qs:List (Nat×Nat×V)}{cs:List C}(hn:d * 64=m)(hq:ps.map (fun p=>(p.1,p.2.1,(mk l h g).ev p.2.2))=qs)(hc:za8 zs qs=some cs)(hne:cs≠[])(hl:cs.length / sz=q)(hf:NB (zZ A h) m)
  (K:RG P rs (mk ((d,.one<|.sl m 0 q)::l) ((m,.vars sz cs)::h) g) Q):RG P (⟨⟨none,.bslice d sz zs ps⟩,dep,A⟩::rs) (mk l h g) Q:=by
 subst hn;subst hl;have hf:(mk l (zZ A h) g).hp (d * 64)=none:=hf;have he:∀x,(mk l (zZ A h) g).ev x=(mk l h g).ev x:=fun x=>by cases x<;>rfl
 refine zhe (by simp) ?_ K;simp only[AW.ev,hf,he,hq,hc,Option.map_some,if_neg hne]
theorem xl{zs:List C}{ps:List (Nat×Nat×Opd)}{qs:List (Nat×Nat×V)}{cs:List C}(hq:ps.map (fun p=>(p.1,p.2.1,(mk l h g).ev p.2.2))=qs)(hc:za8 zs qs=some cs)
  (K:RG P rs (mk ((d,.agg cs)::l) h g) Q):RG P (⟨⟨none,.build d zs ps⟩,dep,A⟩::rs) (mk l h g) Q:=by
 have he:∀x,(mk l (zZ A h) g).ev x=(mk l h g).ev x:=fun x=>by cases x<;>rfl
 refine qA (by simp) ?_ K;simp only[AW.ev,he,hq,hc,Option.map_some]
theorem xi:([]:List (Nat×Nat×Opd)).map (fun p=>(p.1,p.2.1,(mk l h g).ev p.2.2))=[]:=rfl
theorem qq{ps:List (Nat×Nat×Opd)}{qs:List (Nat×Nat×V)}{i j:Nat}(hx:Ev l x v)(H:ps.map (fun p=>(p.1,p.2.1,(mk l h g).ev p.2.2))=qs):((i,j,x)::ps).map (fun p=>(p.1,p.2.1,(mk l h g).ev p.2.2))=(i,j,v)::qs:=by
 simp only[List.map_cons,H,hx.ev]
theorem zGz{f:FuncId}{caps:List Opd}{ps:List Ptr}(hc:Evs l caps (ps.map fun p=> .one (.ptr p)))(K:RG P rs (mk ((d,.one<|.fn f ps)::l) h g) Q):RG P (⟨⟨none,.mkfn d f caps⟩,dep,A⟩::rs) (mk l h g) Q:=by
 refine qA (by simp) ?_ K;have key:∀(caps:List Opd) (ps:List Ptr),Evs l caps (ps.map fun p=> .one (.ptr p))→(caps.mapM fun x=>match (mk l (zZ A h) g).ev x with| .one (.ptr p)=>some p|_=>none)=some ps:=by
  intro caps;induction caps with
  |nil=>intro ps H;cases ps with|nil=>rfl|cons p ps=>exact H.elim
  |cons c caps ih=>
   intro ps H;cases ps with
   |nil=>exact H.elim
   |cons p ps=>
    have h1:(mk l (zZ A h) g).ev c= .one (.ptr p):=H.1.ev;simp only[List.mapM_cons,Option.pure_def,Option.bind_eq_bind,h1,Option.bind_some,ih ps H.2]
 exact(congrArg (Option.map fun ps=>(⟨[],some (d,.one<|.fn f ps),[]⟩:Out)) (key caps ps hc)).trans rfl
def cut{α:Type}(xs:List α)(lo hi:Int):Option (List α):=if 0≤lo∧lo≤hi∧hi≤xs.length then some ((xs.drop lo.toNat).take (hi.toNat - lo.toNat)) else none
def Bd(l:bg)(dflt:Int):Option Opd→Int→Prop
 |none,z=>z=dflt
 |some x,z=>∃k,Ev l x<|.one<|.d<|.int k z
theorem kz{z:Int}:Bd l z none z:=rfl
theorem Bd.at(hx:Ev l x (.one<|.d<|.int k a)):Bd l b (some x) a:=⟨k,hx⟩
theorem Bd.nat{l:bg}{h:bh}{g:Nat→V}{dflt:Nat}{z:Int}{o:Option Opd}(H:Bd l dflt o z)(hz:0≤z):optNat (mk l h g) dflt o=some z.toNat:=by
 cases o with
 |none=>have H:z=(dflt:Int):=H;subst H;simp[optNat]
 |some x=>
  obtain⟨k,H⟩:=H;simp only[optNat,H.ev,V.nat,if_pos hz]
theorem zg3{α:Type}{f:α→List D}{sz:Nat}{xs ys:List α}{lo hi:Option Opd}{p q n:Int}(hx:Ev l x (.one<|.d<|.sl sz<|xs.map f))(hl:Bd l 0 lo p)(hn:(xs.length:Int)=n)(hh:Bd l n hi q)(hc:cut xs p q=some ys)
  (K:RG P rs (mk ((d,.one<|.d<|.sl sz<|ys.map f)::l) h g) Q):RG P (⟨⟨none,.slice d sz x lo hi none⟩,dep,A⟩::rs) (mk l h g) Q:=by
 subst hn;unfold cut at hc;split at hc
 ·rename_i hb;cases hc;refine qA (by simp) ?_ K;have h1:optNat (mk l (zZ A h) g) 0 lo=some p.toNat:=Bd.nat (dflt:=0) hl hb.1;have h2:optNat (mk l (zZ A h) g) (xs.map f).length hi=some q.toNat:=Bd.nat (by simpa using hh) (by omega);simp only[AW.ev,hx.ev,St.cut,h1,h2,Option.bind_some];rw[if_pos ⟨trivial,by omega,by simp;omega⟩];simp[List.map_take,List.map_drop]
 ·cases hc
theorem KR{sz n len r s:Nat}{bk:Blk}{lo hi:Option Opd}{p q:Int}(hx:Ev l x (.one<|.sl n 0 len))(hb:LB (zZ A h) n bk)(hz:bk.szOf=sz)(hl:Bd l 0 lo p)(hh:Bd l len hi q)(hr:p.toNat=r)(hs:q.toNat - p.toNat=s)(hc:0≤p∧p≤q∧q≤len)
  (K:RG P rs (mk ((d,.one<|.sl n r s)::l) h g) Q):RG P (⟨⟨none,.slice d sz x lo hi none⟩,dep,A⟩::rs) (mk l h g) Q:=by
 subst hr;subst hs;have hb:(mk l (zZ A h) g).hp n=some bk:=hb;have hz:(mk l (zZ A h) g).blkSz n=some sz:=by
  unfold St.blkSz;rw[hb];cases bk<;>simp only[Blk.szOf] at hz ⊢<;>rw[hz]
 refine qA (by simp) ?_ K;have h1:optNat (mk l (zZ A h) g) 0 lo=some p.toNat:=Bd.nat (dflt:=0) hl hc.1;have h2:optNat (mk l (zZ A h) g) len hi=some q.toNat:=Bd.nat hh (by omega);simp only[AW.ev,hx.ev,St.cut,h1,h2,Option.bind_some];rw[if_pos ⟨hz,by omega,.inl (by omega)⟩];simp
def El(h:bh)(sz:Nat)(zs:List D)(own:Bool)(v:V)(ys:List (List D)):Prop:=(mk [] h fun _=> .top).elems sz zs own v=some ys
theorem El.st{l:bg}{h:bh}{g:Nat→V}{sz:Nat}{zs:List D}{own:Bool}{v:V}{ys:List (List D)}(H:El h sz zs own v ys):(mk l h g).elems sz zs own v=some ys:=by
 unfold El at H;rw[←H];rfl
theorem El.one{α:Type}{f:α→List D}{t:α}{sz n:Nat}{zs:List D}{own:Bool}{cs:List C}{es:List D}(hb:LB h n (.vars sz cs))(he:xQ own zs cs=some es)(hl:cs.length=sz)(ht:es=f t):El h sz zs own (.one<|.sl n 0 1) ([t].map f):=by
 subst ht;have hb:(mk [] h fun _=>V.top).hp n=some (.vars sz cs):=hb;unfold El St.elems;simp only[hb];rw[if_pos ⟨trivial,trivial,by omega,trivial⟩,he];rfl
theorem El.lent{α:Type}{f:α→List D}{sz:Nat}{zs:List D}{own:Bool}{xs:List α}(hf:own=true→∀x,((f x).all D.flat)=true):El h sz zs own (.one<|.d<|.sl sz<|xs.map f) (xs.map f):=by
 unfold El;simp only[St.elems];rw[if_pos];refine⟨trivial,?_⟩;cases own with
 |false=>rfl
 |true=>
  simp only[Bool.not_true,Bool.false_or];rw[List.all_map,List.all_eq_true];intro x _;exact hf O x
theorem El.zs{sz:Nat}{zs:List D}{own:Bool}:El h sz zs own (.one .zs) []:=rfl
theorem El.named{α:Type}{f:α→List D}{sz n len:Nat}{zs:List D}{own o:Bool}{cp:Option Nat}{xs:List α}(hb:LB h n (.data sz (xs.map f) o cp))(hl:xs.length=len)(hf:∀x,((f x).all D.flat)=true):El h sz zs own (.one<|.sl n 0 len) (xs.map f):=by
 have hb:(mk [] h fun _=>V.top).hp n=some (.data sz (xs.map f) o cp):=hb;subst hl;unfold El St.elems;simp only[hb];rw[if_pos]
 ·simp[List.take_of_length_le]
 ·refine⟨trivial,by simp,?_⟩;rw[List.all_map,List.all_eq_true];intro x _;exact hf x
theorem zfo{α:Type}{f:α→List D}{sz bytes m:Nat}{zs:List D}{own:Bool}{yv:V}{ys:List α}{q:Nat}(ho:zs.all D.flat=own)(hn:d * 64=m)(hx:Ev l x (.one .zs))(hy:Ev l y yv)(he:El (zZ A h) sz zs own yv (ys.map f))(hq:ys.length=q)(hle:q≤2147483648)(hby:bytes≤65536)(hf:NB (zZ A h) m)
  (K:RG P rs (mk ((d,.one<|.sl m 0 q)::l) ((m,.data sz (ys.map f) own none)::h) g) Q):RG P (⟨⟨none,.app d sz bytes zs x y⟩,dep,A⟩::rs) (mk l h g) Q:=by
 subst hn;subst hq;subst ho;have hf:(mk l (zZ A h) g).hp (d * 64)=none:=hf;refine zhe (by simp) ?_ K;simp only[AW.ev,hx.ev,hy.ev,hf,he.st,Option.bind_some,List.length_map];rw[if_pos ⟨by unfold big;omega,hby⟩]
def erL(ns:List Nat):bg→bg→Prop
 |[],l'=>l'=[]
 |(k,v)::r,l'=>∃v' r',v.er ns=v'∧l'=(k,v')::r'∧erL ns r r'
theorem erL.nil{ns:List Nat}:erL ns [] []:=rfl
theorem erL.cons{ns:List Nat}{k:Nat}{v v':V}{r r':bg}(h1:v.er ns=v')(h2:erL ns r r'):erL ns ((k,v)::r) ((k,v')::r'):=⟨v',r',h1,rfl,h2⟩
theorem erL.lk{ns:List Nat}:∀{l l':bg},erL ns l l'→∀t,lk l' t=(lk l t).er ns
 |[],l',H,t=>by have H:l'=[]:=H;subst H;rfl
 |(k,v)::r,l',H,t=>by
  obtain⟨v',r',h1,rfl,h2⟩:=H;simp only[AW.lk];split
  ·exact h1.symm
  ·exact erL.lk h2 t
def erH(ns:List Nat):bh→bh→Prop
 |[],l'=>l'=[]
 |(k,v)::r,l'=>(ns.contains k=true∧erH ns r l')∨(ns.contains k=false∧∃v' r',v.er ns=v'∧l'=(k,v')::r'∧erH ns r r')
theorem erH.nil{ns:List Nat}:erH ns [] []:=rfl
theorem erH.drop{ns:List Nat}{k:Nat}{v:Blk}{r r':bh}(h1:ns.contains k=true)(h2:erH ns r r'):erH ns ((k,v)::r) r':= .inl ⟨h1,h2⟩
theorem erH.cons{ns:List Nat}{k:Nat}{v v':Blk}{r r':bh}(h0:ns.contains k=false)(h1:v.er ns=v')(h2:erH ns r r'):erH ns ((k,v)::r) ((k,v')::r'):= .inr ⟨h0,v',r',h1,rfl,h2⟩
theorem erH.lk{ns:List Nat}:∀{l l':bh},erH ns l l'→∀t,lkB l' t=if ns.contains t then none else(lkB l t).map (Blk.er ns)
 |[],l',H,t=>by have H:l'=[]:=H;subst H;simp[lkB]
 |(k,v)::r,l',H,t=>by
  rcases H with⟨h1,h2⟩|⟨h0,v',r',h1,rfl,h2⟩
  ·rw[erH.lk h2 t];by_cases e:t=k
   ·subst e;rw[if_pos h1,if_pos h1]
   ·simp only[lkB,if_neg e]
  ·by_cases e:t=k
   ·subst e;simp only[lkB,if_true,h0,Bool.false_eq_true,if_false,Option.map_some,h1]
   ·simp only[lkB,if_neg e];exact erH.lk h2 t
def noG:Nat→V:=fun _=> .top
end
theorem kB{P:Program}:∀{gs:List GOp} {s:St} {Q:St→Prop},Ka P (gs.map fun g=>⟨g,0,[]⟩) s Q→zdr P gs s Q
 |[],_,_,h=>h
 |g::gs,s,Q,h=>by
  have h:je P s g fun out=>Ka P (gs.map fun g=>⟨g,0,[]⟩) (s.app out) Q:=h;obtain⟨out,h1,h2,_⟩:=zaV h;show je P s g fun out=>zdr P gs (s.app out) Q;have h3:=kB h2;unfold je at h1 ⊢;have mono:∀o,opA P s o (·=out)→opA P s o fun out=>zdr P gs (s.app out) Q:=fun o ho=>by
   unfold opA at ho ⊢;split at ho
   ·rcases ho with ho|⟨k,B,u,hc,hB,hv,hk⟩;rotate_left
    ·exact .inr ⟨k,B,u,hc,hB,hv,by rw[hk];exact h3⟩
    refine .inl ?_;unfold callB0 at ho ⊢;rw[qB] at ho ⊢;obtain⟨c,hc,ho⟩:=ho;refine⟨c,hc,?_⟩;rw[qB] at ho ⊢;obtain⟨ds,hds,o',md,rs,hf,ho⟩:=ho;refine⟨ds,hds,o',md,rs,hf,?_⟩;cases md with
    |true=>simp only[if_true] at ho ⊢;obtain⟨a1,a2,a3,a4⟩:=ho;exact⟨a1,a2,a3,by rw[a4];exact h3⟩
    |false=>simp only[Bool.false_eq_true,if_false] at ho ⊢;exact⟨ho.1,by rw[ho.2];exact h3⟩
   ·rw[qB] at ho ⊢;obtain⟨o',e1,e2⟩:=ho;exact⟨o',e1,by rw[e2];exact h3⟩
  split at h1
  ·exact mono _ h1
  ·split at h1
   ·split at h1
    ·rename_i hw;simp only[if_pos hw];exact mono _ h1
    ·rename_i hw;simp only[if_neg hw];rw[h1];exact h3
   ·rw[h1];exact h3
   ·exact h1.elim
structure TQ(K:St→Prop)(Q:Exit→St→Prop)(e:Exit)(s:St):Prop where
 out:zjV K Q e s
structure BQ(i:Nat)(Q:Exit→St→Prop)(e:Exit)(s:St):Prop where
 out:zvl i Q e s
structure AW(P:Program)(n:Nat)(c:IC)(Q:Exit→St→Prop)(s:St):Prop where
 h:AW0 P n c Q s
section
variable {P:Program} {n:Nat} {Q Q':Exit→St→Prop} {s t:St}
theorem AW.mono{c:IC}(h:AW P n c Q s)(hq:∀e s',Q e s'→Q' e s'):AW P n c Q' s:=⟨h.h.mono hq⟩
theorem AW.weaken{c:IC}(hw:Wk t s)(h:AW P n c Q t):AW P n c Q s:=⟨h.h.weaken hw⟩
theorem AW.skip(h:Q .normal s):AW P n .skip Q s:=⟨AW0.skip h⟩
theorem yC{L:List RO}(h:RG P L s (Q .normal)):AW P n (.reg L) Q s:=⟨AW0.reg fun gs e=>kB (by rw[←e];exact h.out)⟩
theorem AW.regd{L:List RO}(h:RG P L s (Q .normal)):AW P n (.regd L) Q s:=⟨AW0.regd h.out⟩
theorem AW.seq{x y:IC}(h:AW P n x (TQ (AW P n y Q) Q) s):AW P n (.seq x y) Q s:=⟨AW0.seq (h.h.mono fun e s' hq=>by have hq:=hq.out;cases e<;>first|exact hq.h|exact hq)⟩
theorem AW.block{id:Nat}{c:IC}(h:AW P n c (BQ id Q) s):AW P n (.block id c) Q s:=⟨AW0.block (h.h.mono fun e s' hq=>hq.out)⟩
theorem AW.exit{id:Nat}(h:Q (.exit id) s):AW P n (.exit id) Q s:=⟨AW0.exit h⟩
theorem AW.ret(h:Q .ret s):AW P n .ret Q s:=⟨AW0.ret h⟩
theorem AW.loop{c:IC}{α:Type}(I:α→St→Prop)(μ:α→Nat){x0:α}(h0:∃t,I x0 t∧Wk t s)
  (hr:∀x t,I x t→AW P n c (TQ (fun s'=>∃y t',μ y < μ x∧I y t'∧Wk t' s') Q) t):AW P n (.loop c) Q s:=⟨AW0.loop I μ h0 fun x t hi=>(hr x t hi).h.mono fun e s' hq=>hq.out⟩
theorem TQ.qn{K:St→Prop}(h:K s):TQ K Q .normal s:=⟨h⟩
theorem TQ.qr{K:St→Prop}(h:Q .ret s):TQ K Q .ret s:=⟨h⟩
theorem TQ.qe{K:St→Prop}{i:Nat}(h:Q (.exit i) s):TQ K Q (.exit i) s:=⟨h⟩
theorem BQ.qn{i:Nat}(h:Q .normal s):BQ i Q .normal s:=⟨h⟩
theorem BQ.qr{i:Nat}(h:Q .ret s):BQ i Q .ret s:=⟨h⟩
theorem BQ.qe{i:Nat}(h:Q .normal s):BQ i Q (.exit i) s:=⟨by show(if i=i then Q .normal else Q (.exit i)) s;rw[if_pos rfl];exact h⟩
theorem zHQ{i j:Nat}(hne:Nat.beq j i=false)(h:Q (.exit j) s):BQ i Q (.exit j) s:=by
 have:¬j=i:=fun e=>by subst e;simp at hne
 refine⟨?_⟩;show(if j=i then Q .normal else Q (.exit j)) s;rw[if_neg this];exact h
end
def XI:Nat→List D→bg
 |_,[]=>[]
 |k,d::ds=>(k,zcA d)::XI (k+1) ds
theorem zeI:∀(ds:List D) (k t:Nat),lk (XI k ds) t=if k≤t then Y1 ds (t - k) else .top
 |[],k,t=>by unfold XI lk Y1;simp
 |d::ds,k,t=>by
  simp only[XI,lk];rw[zeI ds (k+1) t];by_cases e:t=k
  ·subst e;simp[Y1]
  ·rw[if_neg e];by_cases h:k+1≤t
   ·rw[if_pos h,if_pos (by omega)];have:t - k=(t - (k+1))+1:=by omega
    rw[this];simp[Y1]
   ·rw[if_neg h,if_neg (by omega)]
theorem zid(ds:List D):zfD ds=mk (XI 0 ds) [] (Y1 ds):=St.ext' (fun t=>by show Y1 ds t=lk (XI 0 ds) t;rw[zeI];simp) (fun _=>rfl) rfl
theorem zb4{P:Program}{n:Nat}{c:Opd}{x y:IC}{Q:Exit→St→Prop}{l:bg}{h:bh}{g:Nat→V}{e:Bool}(hc:Ev l c (.one<|.d<|.bool e))(he:e=true)(K:AW P n x Q (Go.AW.mk l h g)):AW P n (.cond c x y) Q (Go.AW.mk l h g):=by
 subst he;exact⟨AW0.cond (t:=true) hc.ev (fun _=>K.h) (fun e=>by cases e)⟩
theorem zaN{P:Program}{n:Nat}{c:Opd}{x y:IC}{Q:Exit→St→Prop}{l:bg}{h:bh}{g:Nat→V}{e:Bool}(hc:Ev l c (.one<|.d<|.bool e))(he:e=false)(K:AW P n y Q (Go.AW.mk l h g)):AW P n (.cond c x y) Q (Go.AW.mk l h g):=by
 subst he;exact⟨AW0.cond (t:=false) hc.ev (fun e=>by cases e) (fun _=>K.h)⟩
theorem AW.condU{P:Program}{n:Nat}{c:Opd}{x y:IC}{Q:Exit→St→Prop}{l:bg}{h:bh}{g:Nat→V}(hc:Ev l c (.one .anyb))(K1:AW P n x Q (Go.AW.mk l h g))(K2:AW P n y Q (Go.AW.mk l h g)):AW P n (.cond c x y) Q (Go.AW.mk l h g):=⟨AW0.condU hc.ev K1.h K2.h⟩
def RV(l:bg)(h:bh)(q:ZG)(v:V):Prop:=(mk l h fun _=> .top).rdR q=some v
theorem RV.tmp{l:bg}{h:bh}{t:Nat}{v:V}(H:Ev l (.t t) v):RV l h (.tmp t) v:=by
 have H:lk l t=v:=H.lk;show some (lk l t)=some v;rw[H]
theorem zhb{l:bg}{h:bh}{t n k i j m:Nat}{cs es:List C}(H:Ev l (.t t) (.one<|.ptr<|.nm k i j))(hb:LB h k (.vars m cs))
  (hc:(if i * m+j+n≤cs.length then some ((cs.drop (i * m+j)).take n) else none)=some es):RV l h (.cell t<|some n) (.agg es):=by
 have H:lk l t=_:=H.lk;have hb:(mk l h fun _=>V.top).hp k=some (.vars m cs):=hb;have e:(mk l h fun _=>V.top).rd n (.one<|.ptr<|.nm k i j)=some es:=by
  unfold St.rd;simp only[hb];exact hc
 show Option.map V.agg ((mk l h fun _=>V.top).rd n<|lk l t)=some (V.agg es);rw[H,e];rfl
theorem zkW{l:bg}{h:bh}{t k i j m:Nat}{cs:List C}{c:C}(H:Ev l (.t t) (.one<|.ptr<|.nm k i j))(hb:LB h k (.vars m cs))
  (hc:(if i * m+j+1≤cs.length then some ((cs.drop (i * m+j)).take 1) else none)=some [c]):RV l h (.cell t none) (.one c):=by
 have H:lk l t=_:=H.lk;have hb:(mk l h fun _=>V.top).hp k=some (.vars m cs):=hb;have e:(mk l h fun _=>V.top).rd 1 (.one<|.ptr<|.nm k i j)=some [c]:=by
  unfold St.rd;simp only[hb];exact hc
 show Option.bind ((mk l h fun _=>V.top).rd 1<|lk l t) (kH false)=some (V.one c);rw[H,e];rfl
def VO(h:bh)(v:V)(d:D)(ns:List Nat):Prop:=vO (mk [] h fun _=> .top) v d ns
theorem zig{s s':St}(h:s'.hp=s.hp){v:V}{d:D}{ns:List Nat}(H:vO s v d ns):vO s' v d ns:=by
 obtain⟨sl,hp,gh⟩:=s;obtain⟨sl',hp',gh'⟩:=s';cases h;have hc:∀c d ns,cO ⟨sl,hp,gh⟩ c d ns→cO ⟨sl',hp,gh'⟩ c d ns:=fun c d ns H=>by
  cases c with
  |ptr p=>cases p<;>exact H
  |_=>exact H
 have hcs:∀cs ds ns,cOs ⟨sl,hp,gh⟩ cs ds ns→cOs ⟨sl',hp,gh'⟩ cs ds ns:=by
  intro cs;induction cs with
  |nil=>intro ds ns H;cases ds<;>exact H
  |cons c cs ih=>
   intro ds ns H;cases ds with
   |nil=>exact H
   |cons d ds=>obtain⟨a,b,e,h1,h2⟩:=H;exact⟨a,b,e,hc _ _ _ h1,ih _ _ h2⟩
 cases v with
 |one c=>exact hc _ _ _ H
 |agg cs=>cases d<;>first|exact H|exact hcs _ _ _ H
 |top=>exact H
 |tup _=>exact H
theorem VO.flat{h:bh}{d:D}(hf:d.flat=true):VO h (.one<|.d d) d []:=⟨hf,rfl,rfl⟩
theorem VO.ptr{h:bh}{n k:Nat}{cs:List C}{es:List D}(hb:LB h n (.vars k cs))(he:cs=es.map C.d)(hk:es.length=k)(hf:es.all D.flat=true):VO h (.one<|.ptr<|.nm n 0 0) (.ptr es) [n]:=by
 subst he;subst hk;exact⟨rfl,rfl,rfl,es,.inl ⟨hb,hf⟩,rfl⟩
theorem zgf{h:bh}{n:Nat}{ds:List D}(hb:LB h n (.own ds))(hn:Nat.blt n 1000000=true):VO h (.one<|.ptr<|.nm n 0 0) (.ptr ds) [n]:=
 ⟨rfl,rfl,rfl,ds,.inr ⟨hb,by rwa [Nat.blt_eq] at hn⟩,rfl⟩
theorem VO.zs{h:bh}{sz:Nat}:VO h (.one .zs) (.sl sz []) []:=⟨⟨sz,rfl⟩,rfl⟩
theorem VO.sl{h:bh}{n sz len:Nat}{xs:List (List D)}{cp:Option Nat}(hb:LB h n (.data sz xs true cp))(hl:xs.length=len)(hf:(xs.all fun e=>e.all D.flat)=true):VO h (.one<|.sl n 0 len) (.sl sz xs) [n]:=
 ⟨rfl,rfl,sz,xs,cp,hb,hl,.inl hf,rfl⟩
theorem KO{h:bh}{n sz len:Nat}{xs:List (List D)}{cp:Option Nat}(hb:LB h n (.data sz xs true cp))(hl:xs.length=len)(hn:Nat.blt n 1000000=true):VO h (.one<|.sl n 0 len) (.sl sz xs) [n]:=
 ⟨rfl,rfl,sz,xs,cp,hb,hl,.inr (by rwa [Nat.blt_eq] at hn),rfl⟩
theorem VO.agg{h:bh}{cs:List C}{ds:List D}(hc:cs=ds.map .d)(hf:ds.all D.flat=true):VO h (.agg cs) (.agg ds) []:=by
 subst hc;show cOs _ _ _ _;induction ds with
 |nil=>rfl
 |cons d ds ih=>
  simp only[List.all_cons,Bool.and_eq_true] at hf;exact⟨[],[],rfl,⟨hf.1,rfl,rfl⟩,ih hf.2⟩
def RL(l:bg)(h:bh):List ZG→List D→List Nat→Prop
 |[],[],ns=>ns=[]
 |t::ts,r::rs,ns=>∃v a b,RV l h t v∧ns=a++b∧VO h v r a∧RL l h ts rs b
 |_,_,_=>False
theorem RL.nil{l:bg}{h:bh}:RL l h [] [] []:=rfl
theorem RL.cons{l:bg}{h:bh}{t:ZG}{ts:List ZG}{r:D}{rs:List D}{v:V}{a b:List Nat}(h1:RV l h t v)(h2:VO h v r a)(h3:RL l h ts rs b):RL l h (t::ts) (r::rs) (a++b):=⟨v,a,b,h1,rfl,h2,h3⟩
theorem RL.ret{l:bg}{h:bh}{g:Nat→V}:∀{ts:List ZG} {rs:List D} {ns:List Nat},RL l h ts rs ns→zcD (mk l h g) ts rs ns
 |[],[],_,H=>H
 |t::ts,r::rs,ns,H=>by
  obtain⟨v,a,b,h1,h2,h3,h4⟩:=H;refine⟨v,a,b,?_,h2,zig (s:=mk [] h fun _=> .top) (s':=mk l h g) O h3,h4.ret⟩;unfold RV at h1;rw[←h1];cases t with
  |tmp t=>rfl
  |cell t ag=>cases ag<;>rfl
 |[],_::_,_,H=>H.elim
 |_::_,[],_,H=>H.elim
theorem zHy{l:bg}{h:bh}{g:Nat→V}{ts:List ZG}{rs:List D}{ns:List Nat}(H:RL l h ts rs ns)(hn:ns.Nodup):ziJ ts rs .ret (mk l h g):=⟨ns,H.ret,hn⟩
def RB(l:bg)(h:bh):List ZG→List D→Prop
 |[],[]=>True
 |t::ts,r::rs=>∃v r',RV l h t v∧VD h v r'∧RdI r r'∧zbo (KW (mk [] h fun _=> .top) v)=true∧RB l h ts rs
 |_,_=>False
theorem RB.nil{l:bg}{h:bh}:RB l h [] []:=trivial
theorem RB.cons{l:bg}{h:bh}{t:ZG}{ts:List ZG}{r r':D}{rs:List D}{v:V}(h1:RV l h t v)(h2:VD h v r')(h3:RdI r r')(h4:zbo (KW (mk [] h fun _=> .top) v)=true)(h5:RB l h ts rs):RB l h (t::ts) (r::rs):=⟨v,r',h1,h2,h3,h4,h5⟩
theorem RB.ret{l:bg}{h:bh}{g:Nat→V}:∀{ts:List ZG} {rs:List D},RB l h ts rs→zjA (mk l h g) ts rs
 |[],[],H=>H
 |t::ts,r::rs,H=>by
  obtain⟨v,r',h1,h2,h3,h4,h5⟩:=H;refine⟨v,r',?_,?_,h3,h4,h5.ret⟩
  ·unfold RV at h1;rw[←h1];cases t with
   |tmp t=>rfl
   |cell t ag=>cases ag<;>rfl
  ·rw[zii (s:=mk [] h fun _=> .top) (s':=mk l h g) rfl];exact h2
 |[],_::_,H=>H.elim
 |_::_,[],H=>H.elim
theorem zsU{l:bg}{h:bh}{g:Nat→V}{ts:List ZG}{rs:List D}(H:RB l h ts rs):zgQ ts rs .ret (mk l h g):=H.ret
theorem qf{α:Type}{f:α→List D}{xs:List α}(h:∀x,((f x).all D.flat)=true):((xs.map f).all fun e=>e.all D.flat)=true:=by
 rw[List.all_map,List.all_eq_true];intro x _;exact h x
theorem Yv{α:Type}{xs:List α}{i:Int}{x:α}(H:idx xs i=some x):xs[i.toNat]? =some x:=(zaq H).2.1
end Go.AW
