/- Rows of rows that are wholly one's own: rules on written-out states. Lemmas. Conditions: none. -/
import Derived.Test.YtpabbbmfcgnhdaaGreatYg
import Derived.Test.YtpabbbmfcgnhdaaGreatXf
import Derived.Test.YtpabbbmfcgnhdaaGreatXg
set_option linter.unusedVariables false
namespace Go.AW
theorem zcY{ns:List Nat}{l l' gl gl':bg}{h h':bh}(h1:erL ns l l')(h2:erH ns h h')(h3:erL ns gl gl'):(mk l h<|lk gl).er ns=mk l' h' (lk gl'):=by
 refine St.ext' (fun t=> ?_) (fun k=> ?_) ?_
 ·exact(h1.lk t).symm
 ·exact(h2.lk k).symm
 ·funext t;exact(h3.lk t).symm
section
variable {P:Program} {nn:Nat} {L rs0:List RO} {Q:St→Prop} {l l' gl gl':bg} {h h':bh} {g:Nat→V} {dep d:Nat} {A:List Nat} {x y:Opd} {v u:V}
theorem zaQ{α:Type}{f:α→List D}{n i j m sz:Nat}{cp:Option Nat}{xs:List α}{t:α}{es:List D}{cs:List C}(hx:Ev l x (.one<|.ptr<|.nm n i j))(hb:LB (zZ A h) n (.data sz (xs.map f) true cp))(hi:xs[i]? =some t)
  (he:(if j+m≤(f t).length then some (((f t).drop j).take m) else none)=some es) (hc:es.map (ldC true n)=cs)
  (K:RG P rs0 (mk ((d,.agg cs)::l) h g) Q):RG P (⟨⟨none,.load d (some m) x⟩,dep,A⟩::rs0) (mk l h g) Q:=by
 subst hc;have hb:(mk l (zZ A h) g).hp n=some (.data sz (xs.map f) true cp):=hb;split at he
 ·rename_i hle;have he:=Option.some.inj he;refine qA (by simp) ?_ K;simp only[AW.ev,hx.ev,St.rd,hb,List.getElem?_map,hi,Option.map_some,Option.bind_some];rw[if_pos hle,he];rfl
 ·cases he
theorem VOs.cOs{cs:List C}{ds:List D}{ns:List Nat}(H:VOs h cs ds ns):cOs (mk l h g) cs ds ns:=by
 have:=VO.aggs H;have:=zig (s:=mk [] h fun _=> .top) (s':=mk l h g) O this;exact this
def KU(n:Nat)(ns:List Nat):Bool:=decide ns.Nodup&&!ns.contains n&&ns.all fun k=>Nat.blt k 1000000
theorem zdw{α:Type}{f:α→List D}{n i j m sz:Nat}{zs:List D}{cs:List C}{ds:List D}{ns:List Nat}{cp:Option Nat}{xs:List α}{t t':α}(hx:Ev l x (.one<|.ptr<|.nm n i j))(hy:Ev l y v)(hv:v.cells=some cs)(hl:cs.length=m)(hb:LB h n (.data sz (xs.map f) true cp))
  (hi:xs[i]? =some t) (hO:VOs h cs ds ns) (hok:KU n ns=true) (hc:(if j+m≤(f t).length then some (splice (f t) j ds) else none)=some (f t')) (h1:erL ns l l') (h2:erH ns h h') (h3:erL ns gl gl')
  (K:RM P nn L (mk l' ((n,.data sz ((xs.set i t').map f) true cp)::h')<|lk gl') Q):RM P nn (⟨⟨none,.store m zs x y⟩,0,[]⟩::L) (mk l h<|lk gl) Q:=by
 unfold KU at hok;simp only[Bool.and_eq_true,decide_eq_true_eq,Bool.not_eq_true',List.all_eq_true] at hok;split at hc
 ·rename_i hle;have hc:=Option.some.inj hc;refine⟨zgb (e:=f t) (ds:=ds) (ns:=ns) hx.ev hb (by rw[List.getElem?_map,hi];rfl) (by rw[hy.ev];exact hv) hl hle hO.cOs hok.1.1 (fun hn=>by have:=hok.1.2;rw[List.contains_iff_mem.2 hn] at this;cases this) (fun k hk=>by have:=hok.2 k hk;rwa [Nat.blt_eq] at this) ?_⟩;rw[zcY h1 h2 h3,hc,←List.map_set];exact K.out
 ·cases hc
theorem zb2{α:Type}{f:α→List D}{n len yn sz bytes q:Nat}{zs:List D}{cs:List C}{ds:List D}{ns:List Nat}{cp:Option Nat}{xs:List α}{t:α}{l1 l2 gl1 gl2:bg}{hh1 hh2:bh}(hx:Ev l x (.one<|.sl n 0 len))(hy:Ev l y (.one<|.sl yn 0 1))(hb:LB h n (.data sz (xs.map f) true cp))(hl:xs.length=len)(hyb:LB h yn (.vars sz cs))(hcl:cs.length=sz)
  (hO:VOs h cs ds ns) (hok:KU n ns=true) (hn:Nat.blt n 1000000=true) (hds:ds=f t) (hq:(xs++[t]).length=q) (hle:q≤2147483648) (hby:bytes≤65536) (h1:erL ns l l1) (h2:erH ns h hh1) (h3:erL ns gl gl1) (h4:erL [n] l1 l2) (h5:erH [n] hh1 hh2) (h6:erL [n] gl1 gl2)
  (K:RM P nn L (mk ((d,.one<|.sl n 0 q)::l2) ((n,.data sz ((xs++[t]).map f) true none)::hh2)<|lk gl2) Q):RM P nn (⟨⟨none,.app d sz bytes zs x y⟩,0,[]⟩::L) (mk l h<|lk gl) Q:=by
 subst hl;subst hq;subst hds;unfold KU at hok;simp only[Bool.and_eq_true,decide_eq_true_eq,Bool.not_eq_true',List.all_eq_true] at hok;refine⟨RM0.appAbs (n:=n) (yn:=yn) (ds:=f t) (ns:=ns) hx.ev hb (by simp) hy.ev hyb hcl hO.cOs hok.1.1 (fun hm=>by have:=hok.1.2;rw[List.contains_iff_mem.2 hm] at this;cases this) (fun k hk=>by have:=hok.2 k hk;rwa [Nat.blt_eq] at this) (by rwa [Nat.blt_eq] at hn) (by unfold big;simp at hle ⊢;omega) hby ?_⟩;rw[zcY h1 h2 h3,zcY h4 h5 h6];have K:=K.out;simp only[List.map_append,List.map_cons,List.map_nil,List.length_append,List.length_cons,List.length_nil,Nat.zero_add] at K;rw[List.length_map];exact K
end
theorem zbv(n sz b i:Nat)(ow:Bool){z:Nat}{cs:List C}{l:bg}{h:bh}{g:Nat→V}(hb:LB h b (.vars z cs))(hc:cs[i]? =some .zs)(hf:NB h n):Wk (mk l ((b,.vars z<|cs.set i<|.sl n 0 0)::(n,.data sz [] ow none)::h) g) (mk l h g):=fun cx a w ⟨m,R⟩=>by
 obtain⟨m',R',E,hi⟩:=R.virt (n:=n) (sz:=sz) (own:=ow) hf;have hne:b≠n:=fun e=>by
  subst e;have h1:lkB h b=some (.vars z cs):=hb;have h2:lkB h b=none:=hf;rw[h1] at h2;cases h2
 refine⟨m',R'.size,R'.defers,R'.sl,fun k=> ?_,R'.own,R'.fr,R'.gh⟩;have HJ:=R'.hp k;by_cases e:k=b
 ·subst e;have e1:((mk l h g).blk n<|.data sz [] ow none).hp k=some (.vars z cs):=by
   show(if k=n then _ else lkB h k)=_;rw[if_neg hne];exact hb
  rw[e1] at HJ;show zT cx m' w.heap k (lkB ((k,_)::_) k) (m'.inf k);simp only[lkB,if_true];cases hk:m'.inf k with
  |none=>rw[hk] at HJ;exact HJ.elim
  |some f=>
   rw[hk] at HJ;unfold zT at HJ ⊢;cases hfb:f.blk with
   |none=>
    simp only[hfb] at HJ;obtain⟨_,_,_,_,e0,_⟩:=HJ;cases e0
   |some c=>
    simp only[hfb] at HJ ⊢;obtain⟨g1,g2,cells,T,g4,g5,g6,g7⟩:=HJ;refine⟨g1,g2,cells,T,g4,g5,g6,?_⟩;obtain⟨u,hu,hv1,ad,rfl⟩:=g7.at hc;have hnew:qE m' w.heap (.sl n 0 0) (.slice ad 0 0):=⟨hv1,⟨none,sz,0⟩,hi,by simp,ad,by simp,by simp⟩;have:=zl.set i hnew g7
    rwa [show cells.toList.set i (.slice ad 0 0)=cells.toList by
     obtain⟨hlt,he⟩:=List.getElem?_eq_some_iff.1 hu;rw[←he,List.set_getElem_self]] at this
 ·have e1:((mk l h g).blk n<|.data sz [] ow none).hp k=lkB ((n,.data sz [] ow none)::h) k:=rfl;rw[e1] at HJ;show zT cx m' w.heap k (lkB ((b,_)::_) k) (m'.inf k);simp only[lkB,if_neg e];exact HJ
end Go.AW
namespace Go.AW
theorem zdS{P:Program}{s:St}{d:Nat}{f:V}{vs:List V}{K K':Out→Prop}(h:zbf P s d f vs K)(hk:∀out,K out→K' out):zbf P s d f vs K':=by
 obtain⟨c,as,ON,ls,G,rs,md,h1,h2,h3,h4,h5,h6,h7,h8,h9,h10,h11⟩:=h;refine⟨c,as,ON,ls,G,rs,md,h1,h2,h3,h4,h5,h6,h7,h8,h9,h10,?_⟩;cases md with
 |true=>simp only[if_true] at h11 ⊢;exact⟨h11.1,hk _ h11.2⟩
 |false=>simp only[Bool.false_eq_true,if_false] at h11 ⊢;exact hk _ h11
theorem zg5{v0:Value}{x0 c c':D}{n k:Nat}{cs:List C}{l:bg}{h:bh}{gl:bg}(hg:lk gl 63= .one (.d<|.both v0 x0))(hb:LB h n (.vars k (.d c::cs)))
  (H:∀(hp:Hp) (u:Value) (bs bx:List Nat),Rd false hp c u bs→Rd false hp (.both v0 x0) v0 bx→Rd false hp c' u bs∨Rd false hp c' u bx∨Rd false hp c' u []):Wk (mk l ((n,.vars k (.d c'::cs))::h)<|lk gl) (mk l h<|lk gl):=fun cx a w ⟨m,R⟩=>by
 refine⟨m,R.size,R.defers,R.sl,fun j=> ?_,R.own,R.fr,R.gh⟩;show zT cx m w.heap j (if j=n then _ else lkB h j) _;by_cases e:j=n
 ·subst e;rw[if_pos rfl];have A:=R.hp j;have e1:(mk l h<|lk gl).hp j=some (.vars k (.d c::cs)):=hb;rw[e1] at A;have G:=R.gh 63;have e2:(mk l h<|lk gl).gh 63= .one (.d<|.both v0 x0):=hg;rw[e2] at G;obtain⟨_,b2,r2,o2⟩:=G;have hv:v0=cx.gh 63:=by simp only[Rd] at r2;exact r2.1.1
  rw[←hv] at r2;cases hi:m.inf j with
  |none=>rw[hi] at A;exact A.elim
  |some f=>
   rw[hi] at A;unfold zT at A ⊢;cases hbk:f.blk with
   |none=>
    simp only[hbk] at A;obtain⟨_,_,_,_,hx,_⟩:=A;cases hx
   |some b=>
    simp only[hbk] at A ⊢;obtain⟨h1,h2,cells,T,h3,h4,h5,h6⟩:=A;refine⟨h1,h2,cells,T,h3,h4,h5,?_⟩
    revert h6
    generalize cells.toList=L;intro h6
    match L,h6 with
    |u::us,h6=>
     obtain⟨⟨a1,b1,r1,o1⟩,h7⟩:=h6;rcases H _ _ _ _ r1 r2 with r|r|r
     ·exact⟨⟨a1,b1,r,o1⟩,h7⟩
     ·exact⟨⟨a1,b2,r,o2⟩,h7⟩
     ·exact⟨⟨a1,[],r,by simp⟩,h7⟩
 ·rw[if_neg e];exact R.hp j
theorem zg2{v0:Value}{x0:D}{n k:Nat}{cs:List C}{l:bg}{h:bh}{gl:bg}(hg:lk gl 63= .one (.d<|.both v0 x0))(hb:LB h n (.vars k (.d (.pin v0)::cs))):
  Wk (mk l ((n,.vars k (.d (.both v0 x0)::cs))::h)<|lk gl) (mk l h<|lk gl):=
 zg5 hg hb fun hp u bs bx r1 r2=>by
  have e:v0=u:=by simp only[Rd] at r1;exact r1.1.1
  subst e;exact .inr (.inl r2)
theorem zbR{v0:Value}{sz n k:Nat}{xs:List (List D)}{cs:List C}{l:bg}{h:bh}{gl:bg}(hg:lk gl 63= .one (.d<|.both v0<|.sl sz xs))(hb:LB h n (.vars k (.d (.both v0<|.sl sz xs)::cs))):
  Wk (mk l ((n,.vars k (.d (.pin v0)::cs))::h)<|lk gl) (mk l h<|lk gl):=
 zg5 hg hb fun hp u bs bx r1 r2=>by
  simp only[Rd] at r1 ⊢;obtain⟨⟨e,_⟩,a,c,e2,_⟩:=r1;exact .inr (.inr ⟨⟨e,a,_,c,e2⟩,by trivial⟩)
structure RPs(P:Program)(NS:List Nat)(L:List RO)(s:St)(Q:St→Prop):Prop where
 out:RP NS L s Q
structure RTs(P:Program)(nn:Nat)(NS:List Nat)(L:List RO)(s:St)(Q:St→Prop):Prop where
 out:RT P NS L s Q
structure RUs(P:Program)(L:List RO)(s:St)(Q:St→Prop):Prop where
 out:RU P L s Q
theorem zh7{NS:List Nat}:∀{L:List RO} {s:St} {Q Q':St→Prop},RP NS L s Q→(∀s,Q s→Q' s)→RP NS L s Q'
 |[],_,_,_,h,hq=>hq _ h
 |_::_,_,_,_,⟨h1,h2,h3⟩,hq=>⟨h1,h2,Qc h3 fun _ h=>zh7 h hq⟩
theorem zdf{P:Program}{NS:List Nat}:∀{L:List RO} {s:St} {Q Q':St→Prop},RT P NS L s Q→(∀s,Q s→Q' s)→RT P NS L s Q'
 |[],_,_,_,h,hq=>hq _ h
 |_::_,_,_,_,.inl ⟨h1,h2,h3⟩,hq=> .inl ⟨h1,h2,Qc h3 fun _ h=>zdf h hq⟩
 |_::_,_,_,_,.inr<|.inl ⟨d,f,args,h1,h2⟩,hq=> .inr (.inl ⟨d,f,args,h1,zdS h2 fun _ ⟨h3,h4⟩=>⟨h3,zdf h4 hq⟩⟩)
 |_::_,_,_,_,.inr<|.inr ⟨d,sz,zs,ps,h1,h2⟩,hq=> .inr (.inr ⟨d,sz,zs,ps,h1,Qc h2 fun _ h=>zdf h hq⟩)
theorem AW.regp{P:Program}{nn:Nat}{L M N:List RO}{s:St}{Qx:Exit→St→Prop}(NS:List Nat)(h:RPs P NS L s (fun s1=>RTs P nn NS M s1 (fun s2=>RUs P N s2 (Qx .normal)))):AW P nn (.regp L M N) Qx s:=
 ⟨AW0.regp NS (zh7 h.out fun _ h1=>zdf h1.out fun _ h2=>h2.out)⟩
def zfM:IOp→Bool
 | .mov _ _=>true
 | .faddr _ _ _=>true
 | .build _ _ _=>true
 | .inv _ _=>true
 | .ext _ _ _=>true
 | .bin _ _ _ _=>true
 |_=>false
theorem ziB{s:St}{NS:List Nat}{o:IOp}(h:zfM o=true):QM s NS o=true:=by
 cases o<;>first|rfl|cases h
section
variable {P:Program} {nn:Nat} {NS:List Nat} {rs L:List RO} {s:St} {Q:St→Prop} {l l':bg} {h h' h2:bh} {g:Nat→V} {gl gl':bg} {d f:Nat} {fo:Opd} {fv u:V} {us vs:List V} {args:List Opd} {as:List Ar} {ON ls G E:List Nat} {rs':List D} {MB bs:bh}
theorem zkf(H:Q s):RPs P NS [] s Q:=⟨H⟩
theorem zks(H:Q s):RTs P nn NS [] s Q:=⟨H⟩
theorem zgo{o:IOp}{K:Out→Prop}(hl:zfM o=true)(H:opA P s o K):Qb (ev s o) K:=by
 cases o<;>first|exact H|cases hl
theorem za7{o:IOp}(hl:zfM o=true)(H:RG P [⟨⟨none,o⟩,0,[]⟩] s (fun s'=>RPs P NS rs s' Q)):RPs P NS (⟨⟨none,o⟩,0,[]⟩::rs) s Q:=
 have H':opA P s o fun out=>RPs P NS rs (s.app out) Q:=H.out
 ⟨⟨rfl,ziB hl,Qc (zgo hl H') fun _ h=>h.out⟩⟩
theorem zeg{d n i j:Nat}{ag:Option Nat}{x:Opd}(hx:Ev l x (.one<|.ptr<|.nm n i j))(hn:NS.contains n=true)(H:RG P [⟨⟨none,.load d ag x⟩,0,[]⟩] (mk l h g) (fun s'=>RPs P NS rs s' Q)):RPs P NS (⟨⟨none,.load d ag x⟩,0,[]⟩::rs) (mk l h g) Q:=
 have H':Qb (ev (mk l h g)<|.load d ag x) fun out=>RPs P NS rs ((mk l h g).app out) Q:=H.out
 ⟨⟨rfl,(by show QM (mk l h g) NS (.load d ag x)=true;simp only[QM,hx.ev];exact hn),Qc H' fun _ h=>h.out⟩⟩
theorem zg8{d:Nat}{p:Ptr}{x:Opd}(hx:Ev l x (.one<|.ptr p))(H:RG P [⟨⟨none,.nilchk d x⟩,0,[]⟩] (mk l h g) (fun s'=>RPs P NS rs s' Q)):RPs P NS (⟨⟨none,.nilchk d x⟩,0,[]⟩::rs) (mk l h g) Q:=
 have H':Qb (ev (mk l h g)<|.nilchk d x) fun out=>RPs P NS rs ((mk l h g).app out) Q:=H.out
 ⟨⟨rfl,(by show QM (mk l h g) NS (.nilchk d x)=true;simp only[QM,hx.ev]),Qc H' fun _ h=>h.out⟩⟩
theorem zgN{d sz:Nat}{zs:List C}{ps:List (Nat×Nat×Opd)}(H:RG P [⟨⟨none,.bslice d sz zs ps⟩,0,[]⟩] s (fun s'=>RTs P nn NS rs s' Q)):RTs P nn NS (⟨⟨none,.bslice d sz zs ps⟩,0,[]⟩::rs) s Q:=
 have H':Qb (ev s<|.bslice d sz zs ps) fun out=>RTs P nn NS rs (s.app out) Q:=H.out
 ⟨.inr<|.inr ⟨d,sz,zs,ps,rfl,Qc H' fun _ h=>h.out⟩⟩
theorem zkK(H:Q s):RUs P [] s Q:=⟨H⟩
theorem zjB{o:IOp}(hl:zd9 o=true)(H:RG P [⟨⟨none,o⟩,0,[]⟩] s (fun s'=>RUs P rs s' Q)):RUs P (⟨⟨none,o⟩,0,[]⟩::rs) s Q:=
 have H':opA P s o fun out=>RUs P rs (s.app out) Q:=H.out;have hk:zfM o=true:=by cases o<;>first|rfl|cases hl
 ⟨.inl ⟨rfl,hl,Qc (zgo hk H') fun _ h=>h.out⟩⟩
theorem zcc{g:GOp}(hl:zd9 g.o=false)(H:RG P [⟨g,0,[]⟩] s (fun s'=>RUs P rs s' Q)):RUs P (⟨g,0,[]⟩::rs) s Q:=
 have H':je P s g fun out=>RUs P rs (s.app out) Q:=H.out
 ⟨.inr ⟨hl,.inl (KC H' fun _ h=>h.out)⟩⟩
def zBs(NS E MN:List Nat):Bool:=NS.all fun n=>!E.contains n&&!MN.contains n
theorem zL1(hf0:Ev l fo fv)(hcl:Cl fv f us)(hf:FnS P (mk l h<|lk gl) f as rs')(ha:Evs l args vs)(hA:AO h (vs++us) as ON ls)(hM:yV (vs++us) as=MB)(hE:yX G MB=E)(hok:JK ON ls G (MB.map (·.1))=true)(hs:SZ h MB)
  (h1:erL E l l') (h2':erH E h h') (h3:erL E gl gl') (hu:ZP (d * 64) rs'=(u,bs)) (hh:bs.reverse++(MB.reverse++h')=h2) (hfr:qp (mk [] (MB.reverse++h') noG) ((d * 64+63)::bs.map (·.1))):
  zbf P (mk l h<|lk gl) d ((mk l h<|lk gl).ev fo) (args.map (mk l h<|lk gl).ev) fun out=>out.er=E∧out.hp=MB++bs∧(mk l h<|lk gl).app out=mk ((d,u)::l') h2 (lk gl'):=by
 subst hM;subst hE;subst hh;simp only[JK,Bool.and_eq_true,decide_eq_true_eq,List.all_eq_true] at hok;obtain⟨⟨⟨⟨⟨k1,k2⟩,k3⟩,k4⟩,k5⟩,k6⟩:=hok;rw[hf0.ev,ha.ev];refine⟨(f,us),as,ON,ls,G,rs',true,hcl,hA.args,k1,fun n hn=>by simpa using k2 n hn,hf,fun n hn=>by simpa using k3 n hn,fun n hn=>by simpa using k4 n hn,fun n hn=>by have h:=k5 n hn;rw[Nat.blt_eq] at h;exact h,fun n hn=>by have h:=k6 n hn;rw[Nat.blt_eq] at h;exact h,fun p hp=>hs.mem p hp,?_⟩;rw[hu];simp only[if_true];refine⟨?_,by trivial,by trivial,?_⟩
 ·have e:((mk l h<|lk gl).er<|yX G<|yV (vs++us) as).blks (yV (vs++us) as)=mk l' ((yV (vs++us) as).reverse++h') (lk gl'):=by
   refine St.ext' (fun t=> ?_) (fun k=> ?_) ?_
   ·rw[(Js _ _).1];exact(h1.lk t).symm
   ·rw[xC];show _=lkB _ k;rw[Ko,h2'.lk k];rfl
   ·rw[(Js _ _).2];funext t;exact(h3.lk t).symm
  rw[e,XW (s:=mk [] ((yV (vs++us) as).reverse++h') noG) (s':=mk l' ((yV (vs++us) as).reverse++h') (lk gl')) rfl];exact hfr
 ·exact zd2 h1 h2' h3
theorem znI(hf0:Ev l fo fv)(hcl:Cl fv f us)(hf:FnS P (mk l h<|lk gl) f as rs')(ha:Evs l args vs)(hA:AO h (vs++us) as ON ls)(hM:yV (vs++us) as=MB)(hE:yX G MB=E)(hok:JK ON ls G (MB.map (·.1))=true)(hs:SZ h MB)
  (h1:erL E l l') (h2':erH E h h') (h3:erL E gl gl') (hu:XK rs'=u) (hh:MB.reverse++h'=h2):
  zbf P (mk l h<|lk gl) d ((mk l h<|lk gl).ev fo) (args.map (mk l h<|lk gl).ev) fun out=>out.er=E∧out.hp=MB∧(mk l h<|lk gl).app out=mk ((d,u)::l') h2 (lk gl'):=by
 subst hM;subst hE;subst hh;subst hu;simp only[JK,Bool.and_eq_true,decide_eq_true_eq,List.all_eq_true] at hok;obtain⟨⟨⟨⟨⟨k1,k2⟩,k3⟩,k4⟩,k5⟩,k6⟩:=hok;rw[hf0.ev,ha.ev];refine⟨(f,us),as,ON,ls,G,rs',false,hcl,hA.args,k1,fun n hn=>by simpa using k2 n hn,hf,fun n hn=>by simpa using k3 n hn,fun n hn=>by simpa using k4 n hn,fun n hn=>by have h:=k5 n hn;rw[Nat.blt_eq] at h;exact h,fun n hn=>by have h:=k6 n hn;rw[Nat.blt_eq] at h;exact h,fun p hp=>hs.mem p hp,?_⟩;simp only[Bool.false_eq_true,if_false];refine⟨by trivial,by trivial,?_⟩;have:=zd2 (E:=yX G (yV (vs++us) as)) (d:=d) (u:=XK rs') (MB:=yV (vs++us) as) (bs:=[]) h1 h2' h3;rw[List.append_nil] at this;exact this
theorem zkT{v0:Value}{x0:D}(hg:lk gl 63= .one (.d<|.both v0 x0))(hf0:Ev l fo fv)(hcl:Cl fv f us)(hf:FnC P v0 x0 f as rs')(ha:Evs l args vs)(hA:AO h (vs++us) as ON ls)(hM:yV (vs++us) as=MB)(hE:yX G MB=E)(hok:JK ON ls G (MB.map (·.1))=true)(hs:SZ h MB)
  (h1:erL E l l') (h2':erH E h h') (h3:erL E gl gl') (hu:XK rs'=u) (hh:MB.reverse++h'=h2) (hns:zBs NS E (MB.map (·.1))=true)
  (K:RTs P nn NS L (mk ((d,u)::l') h2<|lk gl') Q):RTs P nn NS (⟨⟨none,.callv d fo args⟩,0,[]⟩::L) (mk l h<|lk gl) Q:=
 ⟨.inr<|.inl ⟨d,fo,args,rfl,zdS (znI hf0 hcl (.inr<|.inl ⟨v0,x0,hg,hf⟩) ha hA hM hE hok hs h1 h2' h3 hu hh) fun out ⟨e1,e2,e3⟩=>⟨by rw[e1,e2];exact hns,by rw[e3];exact K.out⟩⟩⟩
end
end Go.AW
