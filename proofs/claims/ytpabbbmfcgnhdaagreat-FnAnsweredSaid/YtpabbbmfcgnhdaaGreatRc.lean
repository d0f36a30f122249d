/- Structs behind pointers, handed over and back: rules whose side conditions are found by themselves. Lemmas. Conditions: none. -/
import Derived.Test.YtpabbbmfcgnhdaaGreatRb
set_option linter.unusedVariables false
namespace Go.AW
structure zhF(ns:List Nat)(cs cs':List C):Prop where
 h:cs.map (C.er ns)=cs'
theorem ecN{ns:List Nat}:zhF ns [] []:=⟨rfl⟩
theorem ecK{ns:List Nat}{c:C}{cs cs':List C}(hc:(!c.has ns)=true)(H:zhF ns cs cs'):zhF ns (c::cs) (c::cs'):=⟨by rw[List.map_cons,C.er_nh hc,H.h]⟩
theorem ecA{ns:List Nat}{c:C}{cs cs':List C}(hc:c.has ns=true)(H:zhF ns cs cs'):zhF ns (c::cs) (.any::cs'):=⟨by rw[List.map_cons,H.h,C.er,if_pos hc]⟩
structure EL(ns:List Nat)(l l':bg):Prop where
 h:erL ns l l'
structure EH(ns:List Nat)(h h':bh):Prop where
 h:erH ns h h'
section
variable {ns:List Nat} {k z:Nat} {v:V} {c:C} {cs cs':List C} {b:Blk} {r r' l:bg} {q q' h:bh}
theorem elN:EL ns [] []:=⟨erL.nil⟩
theorem elT(e:(l.all fun p=>p.2.nh ns)=true):EL ns l l:=⟨eT e⟩
theorem elK(e:v.nh ns=true)(H:EL ns r r'):EL ns ((k,v)::r) ((k,v)::r'):=⟨eK e H.h⟩
theorem elA(e:c.has ns=true)(H:EL ns r r'):EL ns ((k,.one c)::r) ((k,.one .any)::r'):=⟨erL.cons (by show V.one _=_;rw[C.er,if_pos e]) H.h⟩
theorem elG(e:zhF ns cs cs')(H:EL ns r r'):EL ns ((k,.agg cs)::r) ((k,.agg cs')::r'):=⟨erL.cons (by show V.agg _=_;rw[e.h]) H.h⟩
theorem elX(H:EL ns r r'):EL ns ((k,v)::r) ((k,v.er ns)::r'):=⟨erL.cons O H.h⟩
theorem ehN:EH ns [] []:=⟨erH.nil⟩
theorem ehT(e:(h.all fun p=>!ns.contains p.1&&p.2.nh ns)=true):EH ns h h:=⟨hT e⟩
theorem ehD(e:ns.contains k=true)(H:EH ns q q'):EH ns ((k,b)::q) q':=⟨erH.drop e H.h⟩
theorem ehK(e:(!ns.contains k&&b.nh ns)=true)(H:EH ns q q'):EH ns ((k,b)::q) ((k,b)::q'):=⟨hK e H.h⟩
theorem ehV(e0:ns.contains k=false)(e:zhF ns cs cs')(H:EH ns q q'):EH ns ((k,.vars z cs)::q) ((k,.vars z cs')::q'):=⟨erH.cons e0 (by show Blk.vars z _=_;rw[e.h]) H.h⟩
end
theorem aEL{ns:List Nat}{l l':bg}(H:EL ns l l':=by
 repeat' first|exact elN|(apply elT;exact O)|(apply elK;exact O)|(apply elA;exact O)|apply elG|exact ecN|(apply ecK;exact O)|(apply ecA;exact O)|apply elX):EL ns l l':=H
theorem aEH{ns:List Nat}{h h':bh}(H:EH ns h h':=by
 repeat' first|exact ehN|(apply ehT;exact O)|(apply ehD;exact O)|(apply ehK;exact O)|(apply ehV;exact O)|exact ecN|(apply ecK;exact O)|(apply ecA;exact O)):EH ns h h':=H
theorem lnN{α:Type}:([]:List α).length=0:=rfl
theorem lnC{α:Type}{a:α}{l:List α}{n:Nat}(h:l.length=n):(a::l).length=n+1:=by rw[List.length_cons,h]
theorem aLn{α:Type}{l:List α}{n:Nat}(h:l.length=n:=by repeat' first|exact lnN|apply lnC):l.length=n:=h
structure zmn{α:Type}(l:List α)(i:Nat)(a:α)(r:List α):Prop where
 h:l.set i a=r
theorem stZ{α:Type}{a b:α}{l:List α}:zmn (b::l) 0 a (a::l):=⟨rfl⟩
theorem stS{α:Type}{a b:α}{l r:List α}{i:Nat}(h:zmn l i a r):zmn (b::l) (i+1) a (b::r):=⟨by rw[List.set_cons_succ,h.h]⟩
theorem aSt{α:Type}{a:α}{l r:List α}{i:Nat}(h:zmn l i a r:=by repeat' first|exact stZ|apply stS):l.set i a=r:=h.h
structure Gat(n:Nat)(ns:List Nat)(l:bg)(h:bh)(gl l2:bg)(h2:bh)(gl2:bg):Prop where
 out:∃sz cs ds h',LB h n (.vars sz cs)∧VOs h cs ds ns∧KU n ns=true∧cs.length=sz∧erL ns l l2∧erH ns h h'∧erL ns gl gl2∧h2=(n,.own ds)::h'
theorem zuh{n:Nat}{ns:List Nat}{l gl l' gl':bg}{h h':bh}{sz:Nat}{cs:List C}{ds:List D}(hb:LB h n (.vars sz cs):=by exact aB)(hO:VOs h cs ds ns:=by exact zKy)(hok:KU n ns=true:=by rfl)(hcl:cs.length=sz:=by rfl)
  (h1:EL ns l l':=by exact aEL) (h2:EH ns h h':=by exact aEH) (h3:EL ns gl gl':=by exact aEL):Gat n ns l h gl l' ((n,.own ds)::h') gl':=⟨_,_,_,_,hb,hO,hok,hcl,h1.h,h2.h,h3.h,rfl⟩
structure Sca(n n0 res:Nat)(l:bg)(h:bh)(gl l2:bg)(h2:bh)(gl2:bg):Prop where
 out:∃ds cs B k h',LB h n (.own ds)∧Nat.blt n 1000000=true∧jN n0 ds=(cs,B)∧ds.length=k∧qp (mk [] h fun _=> .top) (res::B.map (·.1))∧erL [zI n] l l2∧erH [zI n] h h'∧erL [zI n] gl gl2∧h2=(n,.vars k cs)::(B.reverse++h')
theorem aBC{n:Nat}{ds:List D}{cs:List C}{B:bh}(h:BCs n ds cs B:=by repeat' first|exact zE8|apply zHr|(apply zFc;exact O)):BCs n ds cs B:=h
theorem zFn{n n0 res k:Nat}{l gl l' gl':bg}{h h' h3:bh}{ds:List D}{cs:List C}{B:bh}(hb:LB h n (.own ds):=by exact aB)(hn:Nat.blt n 1000000=true:=by rfl)(hB:BCs n0 ds cs B:=by exact aBC)(hl:ds.length=k:=by exact aLn)
  (hf:qp (mk [] h fun _=> .top) (res::B.map (·.1)):=by exact aFr) (h1:EL [zI n] l l':=by exact aEL) (h2:EH [zI n] h h':=by exact aEH) (h4:EL [zI n] gl gl':=by exact aEL) (hh:B.reverse++h'=h3:=by exact aRv):
  Sca n n0 res l h gl l' ((n,.vars k cs)::h3) gl':=⟨_,_,_,_,_,hb,hn,hB.h,hl,hf,h1.h,h2.h,h4.h,by rw[hh]⟩
theorem zgd:∀(cs:List C),Xh cs cs
 |[]=>Xh.nil
 |_::cs=>Xh.cons CWk.rfl (zgd cs)
theorem zkL{n:Nat}{ns:List Nat}{l gl l2 gl2:bg}{h h2:bh}(G:Gat n ns l h gl l2 h2 gl2):Wk (mk l2 h2<|lk gl2) (mk l h<|lk gl):=by
 obtain⟨sz,cs,ds,h',a,b,c,d,e,f,g,rfl⟩:=G.out;exact zeP n a b c d e f g
theorem zym{n n0 res:Nat}{l gl l2 gl2:bg}{h h2:bh}(S:Sca n n0 res l h gl l2 h2 gl2):Wk (mk l2 h2<|lk gl2) (mk l h<|lk gl):=by
 obtain⟨ds,cs,B,k,h',a,b,c,d,e,f,g,i,rfl⟩:=S.out;exact zht n n0 res a b c (zgd cs) d e f g i
section
variable {P:Program} {nn n:Nat} {L:List RO} {Q:St→Prop} {Qx:Exit→St→Prop} {c:IC} {e:Exit} {l l' gl gl' l2 gl2:bg} {h h' h2:bh} {g:Nat→V} {KF:List (Nat×NI)} {ns:List Nat}
theorem zcS(n n0 res:Nat)(K:AW P nn c Qx (mk l2 h2<|lk gl2))(S:Sca n n0 res l h gl l2 h2 gl2:=by exact zFn):AW P nn c Qx (mk l h<|lk gl):=AW.weaken (zym S) K
theorem zcG(n:Nat)(K:AW P nn c Qx (mk l2 h2<|lk gl2))(G:Gat n ns l h gl l2 h2 gl2:=by exact zuh):AW P nn c Qx (mk l h<|lk gl):=AW.weaken (zkL G) K
theorem zpG(n:Nat)(K:Qx e (mk l2 h2<|lk gl2))(G:Gat n ns l h gl l2 h2 gl2:=by exact zuh):PQ Qx e (mk l h<|lk gl):=PQ.at (zkL G) K
theorem zrG(n:Nat)(K:RMf P nn KF L (mk l2 h2<|lk gl2) Q)(G:Gat n ns l h gl l2 h2 gl2:=by exact zuh)(hk:(KF.all fun p=>!ns.contains p.1)=true:=by rfl):RMf P nn KF L (mk l h<|lk gl) Q:=by
 obtain⟨sz,cs,ds,h',a,b,c,d,e,f,g,rfl⟩:=G.out;exact zaA n a b c d e f g hk K
theorem zrS(n n0 res:Nat)(K:RMf P nn KF L (mk l2 h2<|lk gl2) Q)(S:Sca n n0 res l h gl l2 h2 gl2:=by exact zFn)(hk:(KF.all fun p=>!Nat.beq p.1 (zI n))=true:=by rfl):RMf P nn KF L (mk l h<|lk gl) Q:=by
 obtain⟨ds,cs,B,k,h',a,b,c,d,e,f,g,i,rfl⟩:=S.out;exact zjc n n0 res a b c (zgd cs) d e f g i hk K
theorem zrP{k k' off len:Nat}{cs:List C}{e:Value→List C}(n q:Nat)(K:∀f v,SlV f off len v→RMf P nn ((k',f)::KF) L (mk l ((n,.vars k<|e v)::h) g) Q)(hb:LB h n (.vars k cs):=by exact aB)(hq:cs[q]? =some (.sl k' off len):=by rfl)(he:∀v,cs.set q (.d<|.pin v)=e v:=by intro v;exact aSt):
  RMf P nn KF L (mk l h g) Q:=zHJ hb hq he K
theorem zrU{k k' off len:Nat}{cs cs':List C}{f:NI}{v:Value}(n q:Nat)(hv:SlV f off len v)(K:RMf P nn KF L (mk l ((n,.vars k cs')::h) g) Q)(hb:LB h n (.vars k cs):=by exact aB)(hq:cs[q]? =some (.d<|.pin v):=by rfl)(hm:(k',f)∈KF:=by repeat' first|exact .head _|apply List.Mem.tail)(he:cs.set q (.sl k' off len)=cs':=by exact aSt):
  RMf P nn KF L (mk l h g) Q:=zlP hv hb hq hm he K
theorem aAO{h:bh}{vs:List V}{as:List Ar}{ON ls:List Nat}(H:AO h vs as ON ls:=by
 repeat' first
  |exact AO.nil|(apply AO.mut;(first|(apply zgf;(exact aB);exact O)|(apply VO.ptr;(exact aB);(exact O);(exact O);exact O)))|(apply AO.lent;(first
    |exact VD.plain|exact zge|exact VD.sub|exact VD.zs|(apply VD.sl;(exact aB);exact zcv)|(apply VD.cut;(exact aB);omega)|(apply zgc;(exact aB);repeat' first|exact CDs.nil|apply CDs.plain|apply CDs.sub|apply CDs.zs|(apply CDs.sl;(exact aB);exact zcv))
    |(apply VD.agg;exact O)|(apply VD.aggs;repeat' first|exact CDs.nil|apply CDs.plain|apply CDs.sub|apply CDs.zs|(apply CDs.sl;(exact aB);exact zcv))
    |(apply VD.fn;repeat' first|exact PDs.nil|apply PDs.cons|exact zge|(apply zgc;exact aB)|exact CDs.nil|apply CDs.plain|apply CDs.sub|apply CDs.zs|(apply CDs.sl;(exact aB);exact zcv)));exact O)):AO h vs as ON ls:=H
structure IV(d:D)(v:V):Prop where
 h:zcA d=v
structure IVs(ds:List D)(vs:List V):Prop where
 h:ds.map zcA=vs
structure MC(ds:List D)(cs:List C):Prop where
 h:ds.map C.d=cs
theorem mcN:MC [] []:=⟨rfl⟩
theorem mcC{d:D}{ds:List D}{cs:List C}(H:MC ds cs):MC (d::ds) (.d d::cs):=⟨by rw[List.map_cons,H.h]⟩
theorem ivA{ds:List D}{cs:List C}(H:MC ds cs):IV (.agg ds) (.agg cs):=⟨by rw[zcA,H.h]⟩
theorem ivD{d:D}(e:d.isCell=true):IV d (.one<|.d d):=⟨by cases d<;>first|(cases e;done)|rfl⟩
theorem zIj:IVs [] []:=⟨rfl⟩
theorem zIs{d:D}{ds:List D}{v:V}{vs:List V}(h1:IV d v)(h2:IVs ds vs):IVs (d::ds) (v::vs):=⟨by rw[List.map_cons,h1.h,h2.h]⟩
structure IR(rs:List D)(u:V):Prop where
 h:XK rs=u
theorem irO{d:D}{v:V}(h:IV d v):IR [d] v:=⟨h.h⟩
theorem irN:IR [] (.tup []):=⟨rfl⟩
theorem irT{a b:D}{ds:List D}{vs:List V}(h:IVs (a::b::ds) vs):IR (a::b::ds) (.tup vs):=⟨by rw[←h.h];rfl⟩
theorem aIR{rs:List D}{u:V}(H:IR rs u:=by repeat' first|exact irN|apply irO|apply irT|exact zIj|apply zIs|apply ivA|exact mcN|apply mcC|(apply ivD;exact O)):XK rs=u:=H.h
theorem zrC{d f:Nat}{fo:Opd}{fv u:V}{us vs:List V}{args:List Opd}{as:List Ar}{ON ls:List Nat}{rs' ds':List D}(hf:Fn P f as true rs')(K:RMf P nn KF L (mk ((d,u)::l') ((n,.own ds')::h')<|lk gl') Q)
  (hf0:Ev l fo fv:=by exact aE) (hcl:Cl fv f us:=by exact Cl.fn) (ha:Evs l args vs:=by exact aEs) (hA:AO h (vs++us) as ON ls:=by exact aAO) (hM:yV (vs++us) as=[(n,.own ds')]:=by rfl) (hok:JK ON ls [] [n]=true:=by rfl)
  (hs:SZ h [(n,.own ds')]:=by(apply zkV;(exact aB);(exact O);exact SZ.nil)) (h1:EL [zI n] l l':=by exact aEL) (h2':EH [zI n] h h':=by exact aEH) (h3:EL [zI n] gl gl':=by exact aEL) (hu:XK rs'=u:=by exact aIR)
  (hKk:(KF.all fun p=>![zI n].contains p.1&&!([n]:List Nat).contains p.1)=true:=by rfl):RMf P nn KF (⟨⟨none,.callv d fo args⟩,0,[]⟩::L) (mk l h<|lk gl) Q:=
 zlH (G:=[]) (E:=[zI n]) (MB:=[(n,.own ds')]) hf0 hcl hf ha hA hM O hok hs h1.h h2'.h h3.h hu O hKk K
end
theorem zGM{P:Program}{n:Nat}{L:List RO}{Q:St→Prop}{l:bg}{h:bh}{gl:bg}(ks ns:List Nat)(H:gcL ns l ks fun l'=>gcH ns [] h fun h'=>gkK ns (RM P n L (mk l' h'<|lk gl) Q) gl):RM P n L (mk l h<|lk gl) Q:=by
 obtain⟨l',h1,H⟩:=zfK H;obtain⟨h',H,h2,h3⟩:=zd8 H;obtain⟨h4,H⟩:=zfB H;exact y3 (zU ns h1 (BL.of fun p hp=>(h2 p hp).imp id fun h=>h.resolve_left (by simp)) (BK.of fun p hp=>⟨(h3 p hp).1,(h3 p hp).2.2⟩) h4) H
theorem zGQ{P:Program}{n:Nat}{Q:Exit→St→Prop}{fs:List Fm}{α:Type}{J:α→Prop}{rep:α→St}{l:bg}{h:bh}{gl:bg}(ks ns:List Nat)(H:gcL ns l ks fun l'=>gcH ns [] h fun h'=>gkK ns (QS P n Q (.stop (fun s'=>∃a,J a∧Wk (rep a) s')::fs) .normal (mk l' h'<|lk gl)) gl):QS P n Q (.stop (fun s'=>∃a,J a∧Wk (rep a) s')::fs) .normal (mk l h<|lk gl):=by
 obtain⟨l',h1,H⟩:=zfK H;obtain⟨h',H,h2,h3⟩:=zd8 H;obtain⟨h4,H⟩:=zfB H;exact zP (zU ns h1 (BL.of fun p hp=>(h2 p hp).imp id fun h=>h.resolve_left (by simp)) (BK.of fun p hp=>⟨(h3 p hp).1,(h3 p hp).2.2⟩) h4) H
end Go.AW
