/- Rules whose side conditions are found by themselves. Lemmas. Conditions: none. -/
import Derived.Test.YtpabbbmfcgnhdaaGreatRa
import Derived.Test.YtpabbbmfcgnhdaaGreatYv
set_option linter.unusedVariables false
namespace Go.AW
theorem zn{β:Type}{c:Prop}[Decidable c]{x:Option β}{r:β}(H:(if c then none else x)=some r):¬c∧x=some r:=by
 split at H
 ·cases H
 ·exact⟨by assumption,H⟩
theorem aE{l:bg}{x:Opd}{v:V}(h:Ev l x v:=by first|exact eR rfl|exact eC):Ev l x v:=h
theorem aB{h:bh}{n:Nat}{b:Blk}(e:LB h n b:=by first|exact bR rfl|(apply hB;(exact O);exact bR O)):LB h n b:=e
theorem aN{h:bh}{n:Nat}(e:NB h n:=by first|exact nR rfl|(apply hN;exact nR O)):NB h n:=e
theorem zcv{a b:Nat}(e:a=b:=by first|exact List.length_map _|exact rfl|(simp;done)|(simp;omega)|omega|(simp only[List.length_map];omega)):a=b:=e
theorem aEs{l:bg}{xs:List Opd}{vs:List V}(h:Evs l xs vs:=by repeat' first|exact Evs.nil|apply Evs.cons|exact aE):Evs l xs vs:=h
theorem zGi{h:bh}{vs:List V}{ds:List D}(H:VDs h vs ds:=by
 repeat' first
  |exact VDs.nil|apply VDs.cons|exact VD.plain|exact zge|exact VD.sub|exact VD.zs|exact VD.agg rfl
  |(apply VD.sl;(exact aB);exact zcv)|(apply VD.cut;(exact aB);omega)|exact VD.vars _ (bR O) O rfl|(apply zgc;exact aB)|apply VD.aggs|apply VD.fn|exact PDs.nil|apply PDs.cons
  |exact CDs.nil|apply CDs.plain|apply CDs.sub|apply CDs.zs|(apply CDs.sl;(exact aB);exact zcv)):VDs h vs ds:=H
theorem aRL{l:bg}{h:bh}{ts:List ZG}{rs:List D}{ns:List Nat}(H:RL l h ts rs ns:=by
 repeat' first
  |exact RL.nil|apply RL.cons|exact RV.tmp (eR O)|exact zkW (eR O) (bR O) rfl|exact zhb (eR O) (bR O) rfl
  |exact VO.flat rfl|exact VO.zs|exact VO.agg O rfl|(apply VO.sl;(exact bR O);(exact zcv);exact qf fun _=>rfl)|(apply KO;(exact bR O);(exact zcv);exact O)|exact zgf (bR O) rfl|exact VO.ptr (bR O) O O rfl
  |apply VO.aggs|exact VOs.nil|apply VOs.cons):RL l h ts rs ns:=H
theorem zKy{h:bh}{cs:List C}{ds:List D}{ns:List Nat}(H:VOs h cs ds ns:=by
 repeat' first
  |exact VOs.nil|apply VOs.cons|exact VO.flat rfl|exact VO.zs|(apply VO.sl;(exact bR O);(exact zcv);exact qf fun _=>rfl)|(apply KO;(exact bR O);(exact zcv);exact O)):VOs h cs ds ns:=H
theorem aML{h:bh}{gl:bg}{k:Nat}{as:List Ar}{ns:List Nat}(H:ML h gl k as ns:=by
 repeat' first
  |exact ML.nil|apply ML.lent|apply ML.give|(apply ML.mut;exact eR O)
  |exact VO.flat rfl|exact VO.zs|(apply VO.sl;(exact bR O);(exact zcv);exact qf fun _=>rfl)|(apply KO;(exact bR O);(exact zcv);exact O)|exact zgf (bR O) rfl|exact VO.ptr (bR O) O O rfl
  |apply VO.aggs|exact VOs.nil|apply VOs.cons):ML h gl k as ns:=H
theorem aND{ns:List Nat}(H:ns.Nodup:=by first|exact List.nodup_nil|decide):ns.Nodup:=H
section
variable {P:Program} {n:Nat} {l l':bg} {h h':bh} {gl gl':bg} {ts:List ZG} {rs:List D} {ns ms:List Nat} {as:List Ar} {Q:Exit→St→Prop} {fs:List Fm}
theorem zE{g:Nat→V}(H:RL l h ts rs ns:=by exact aRL)(hn:ns.Nodup:=by exact aND):ziJ ts rs .ret (mk l h g):=zHy H hn
theorem zM(H:RL l h ts rs ns:=by exact aRL)(M:ML h gl 0 as ms:=by exact aML)(hn:(ns++ms).Nodup:=by exact aND):X5 as ts rs .ret (mk l h<|lk gl):=zdN H M hn
theorem zMN(H:RL l h ts rs ns:=by exact aRL)(M:ML h gl 0 as ms:=by exact aML)(hn:(ns++ms).Nodup:=by exact aND):X5 as ts rs .normal (mk l h<|lk gl):=ztT H M hn
theorem aSL{l l':bg}{ns:List Nat}(H:SL l ns l':=by
 first
  |exact sR O rfl
  |repeat' first
    |exact SL.nil|(apply kR;(exact O);exact O)|(apply SL.cons;(exact eR O);exact O)
    |exact VWk.rfl|exact VWk.top|apply VWk.one|apply VWk.agg|exact CWk.rfl|exact CWk.zs|exact CWk.len zcv|exact Xh.nil|apply Xh.cons):SL l ns l':=H
theorem aBL{h h':bh}{ns:List Nat}(H:BL h' ns h:=by exact blR O):BL h' ns h:=H
abbrev ah{α:Type}(n:Nat)(x:List α):C:=.sl n 0 x.length
theorem aBK{h h':bh}{ns:List Nat}(H:BK h ns h':=by
 first
  |exact bkR O O rfl
  |repeat' first
    |exact BK.nil|(apply BK.cons;(exact O);(exact bR O);(exact O);first|exact rfl|(simp[ah];done)|(simp[ah];exact O))):BK h ns h':=H
theorem aGK{gl:bg}{ns:List Nat}(H:GK ns gl:=by repeat' first|exact GK.nil|(apply GK.cons;exact O)):GK ns gl:=H
theorem zQ{α:Type}(ns:List Nat){J:α→Prop}{rep:α→St}{a:α}(H:J a)(he:rep a=mk l' h' (lk gl):=by rfl)(h1:SL l ns l':=by exact aSL)(h2:BL h' ns h:=by exact aBL)(h3:BK h ns h':=by exact aBK)(h4:GK ns gl:=by exact aGK):
  QS P n Q (.stop (fun s'=>∃a,J a∧Wk (rep a) s')::fs) .normal (mk l h<|lk gl):=TQ.qn ⟨a,H,he▸zU ns h1 h2 h3 h4⟩
theorem zP{α:Type}{J:α→Prop}{rep:α→St}{s t:St}(hw:Wk t s)(H:QS P n Q (.stop (fun s'=>∃a,J a∧Wk (rep a) s')::fs) .normal t):QS P n Q (.stop (fun s'=>∃a,J a∧Wk (rep a) s')::fs) .normal s:=by
 obtain⟨a,j,w⟩:=TQ.out H;exact TQ.qn ⟨a,j,w.trans hw⟩
end
def gcL(ns:List Nat)(l:bg):List Nat→(bg→Prop)→Prop
 |[],k=>k []
 |t::ts,k=>lkK False (fun v=>match v.nh ns with
  |true=>gcL ns l ts fun r=>k ((t,v)::r)
  |false=>False) t l
theorem zfK{ns:List Nat}{l:bg}:∀{ts:List Nat} {k:bg→Prop},gcL ns l ts k→∃l',SL l ns l'∧k l'
 |[],k,H=>⟨[],trivial,H⟩
 |t::ts,k,H=>by
  rcases zfv H with⟨v,hx,H⟩|e
  ·split at H
   ·rename_i e;obtain⟨l',h1,h2⟩:=zfK H;exact⟨_,SL.cons hx (V.er_nh e) VWk.rfl h1,h2⟩
   ·exact H.elim
  ·exact e.elim
def gcH(ns:List Nat):List Nat→bh→(bh→Prop)→Prop
 |_,[],k=>k []
 |sn,(n,b)::r,k=>match ns.contains n||sn.contains n with
  |true=>gcH ns sn r k
  |false=>match b.nh ns with
   |true=>gcH ns (n::sn) r fun r'=>k ((n,b)::r')
   |false=>False
theorem zd8{ns:List Nat}:∀{h:bh} {sn:List Nat} {k:bh→Prop},gcH ns sn h k→
  ∃h',k h'∧(∀p∈h,ns.contains p.1=true∨sn.contains p.1=true∨(h'.map (·.1)).contains p.1=true)∧∀p∈h',ns.contains p.1=false∧sn.contains p.1=false∧lkB h p.1=some p.2∧p.2.er ns=p.2
 |[],_,k,H=>⟨[],H,by simp,by simp⟩
 |(n,b)::r,sn,k,H=>by
  unfold gcH at H;cases e:(ns.contains n||sn.contains n) with
  |true=>
   rw[e] at H;obtain⟨h',h1,h2,h3⟩:=zd8 (h:=r) H;simp only[Bool.or_eq_true] at e;refine⟨h',h1,fun p hp=> ?_,fun p hp=> ?_⟩
   ·rcases List.mem_cons.1 hp with rfl|hp
    ·exact e.imp id .inl
    ·exact h2 p hp
   ·obtain⟨a,b',c,d⟩:=h3 p hp;refine⟨a,b',?_,d⟩;unfold lkB;rw[if_neg]
    ·exact c
    ·intro ee;rw[ee] at a b';rcases e with e|e
     ·rw[a] at e;cases e
     ·rw[b'] at e;cases e
  |false=>
   rw[e] at H;simp only[Bool.or_eq_false_iff] at e;cases e2:b.nh ns with
   |false=>simp only[e2] at H
   |true=>
    simp only[e2] at H;obtain⟨h',h1,h2,h3⟩:=zd8 (h:=r) H;refine⟨_,h1,fun p hp=> ?_,fun p hp=> ?_⟩
    ·rcases List.mem_cons.1 hp with rfl|hp
     ·exact .inr (.inr (by simp))
     ·rcases h2 p hp with h|h|h
      ·exact .inl h
      ·simp only[List.contains_cons,Bool.or_eq_true,beq_iff_eq] at h;rcases h with h|h
       ·exact .inr (.inr (by simp[h]))
       ·exact .inr (.inl h)
      ·exact .inr (.inr (by simp only[List.map_cons,List.contains_cons,h,Bool.or_true]))
    ·rcases List.mem_cons.1 hp with rfl|hp
     ·exact⟨e.1,e.2,by simp[lkB],Blk.er_nh e2⟩
     ·obtain⟨a,b',c,d⟩:=h3 p hp;simp only[List.contains_cons,Bool.or_eq_false_iff,beq_eq_false_iff_ne] at b';refine⟨a,b'.2,?_,d⟩;unfold lkB;rw[if_neg b'.1];exact c
theorem BK.of{h:bh}{ns:List Nat}:∀{h':bh},(∀p∈h',ns.contains p.1=false∧lkB h p.1=some p.2∧p.2.er ns=p.2)→BK h ns h'
 |[],_=>BK.nil
 |(n,b)::r,H=>by
  obtain⟨a,c,d⟩:=H (n,b) (by simp);exact BK.cons a c d O (BK.of fun p hp=>H p (by simp[hp]))
theorem BL.of{h':bh}{ns:List Nat}:∀{h:bh},(∀p∈h,ns.contains p.1=true∨(h'.map (·.1)).contains p.1=true)→BL h' ns h
 |[],_=>BL.nil
 |(n,b)::r,H=>⟨H (n,b) (by simp),BL.of fun p hp=>H p (by simp[hp])⟩
def gkK(ns:List Nat)(k:Prop):bg→Prop
 |[]=>k
 |(_,v)::r=>match v.nh ns with
  |true=>gkK ns k r
  |false=>False
theorem zfB{ns:List Nat}{k:Prop}:∀{gl:bg},gkK ns k gl→GK ns gl∧k
 |[],H=>⟨GK.nil,H⟩
 |(_,v)::r,H=>by
  unfold gkK at H;cases e:v.nh ns with
  |false=>rw[e] at H;exact H.elim
  |true=>rw[e] at H;obtain⟨h1,h2⟩:=zfB H;exact⟨GK.cons (V.er_nh e) h1,h2⟩
theorem zG{P:Program}{n:Nat}{c:IC}{Q:Exit→St→Prop}{l:bg}{h:bh}{gl:bg}(ks ns:List Nat)(H:gcL ns l ks fun l'=>gcH ns [] h fun h'=>gkK ns (AW P n c Q<|mk l' h'<|lk gl) gl):AW P n c Q (mk l h<|lk gl):=by
 obtain⟨l',h1,H⟩:=zfK H;obtain⟨h',H,h2,h3⟩:=zd8 H;obtain⟨h4,H⟩:=zfB H;exact AW.weaken (zU ns h1 (BL.of fun p hp=>(h2 p hp).imp id fun h=>h.resolve_left (by simp)) (BK.of fun p hp=>⟨(h3 p hp).1,(h3 p hp).2.2⟩) h4) H
def ptK:List D→(List (List D)→Prop)→Prop→Prop
 |[],k,_=>k []
 | .ptr cs::r,k,s=>ptK r (fun css=>k (cs::css)) s
 |_::_,_,s=>s
theorem zjP{s:Prop}:∀{ds:List D} {k:List (List D)→Prop},ptK ds k s→(∃css,ds=css.map D.ptr∧k css)∨s
 |[],_,H=> .inl ⟨[],rfl,H⟩
 |d::r,k,H=>by
  cases d with
  |ptr cs=>
   rcases zjP (ds:=r) H with⟨css,h1,h2⟩|e
   ·exact .inl ⟨cs::css,by rw[h1];rfl,h2⟩
   ·exact .inr e
  |_=>exact .inr H
def bdK:List (List D)→(List Ptr→Prop)→Prop
 |[],k=>k []
 |cs::r,k=>bdK r fun ps=>k (.bd cs 0::ps)
theorem zjO:∀{css:List (List D)} {k:List Ptr→Prop},bdK css k=k (css.map fun cs=> .bd cs 0)
 |[],_=>rfl
 |_::r,k=>by simp only[bdK,zjO,List.map_cons]
def agV(d:D)(k:V→Prop):Prop:=match d with
 | .ptr cs=>k (.one<|.ptr<|.bd cs 0)
 | .fn f ds=>ptK ds (fun css=>bdK css fun ps=>k (.one<|.fn f ps)) (k<|.one<|.d<|.fn f ds)
 | .agg ds=>mpK ds fun cs=>k (.agg cs)
 |d=>k (.one<|.d d)
theorem zkO{d:D}{k:V→Prop}(H:agV d k):∃v,VWk (zcA d) v∧k v:=by
 cases d with
 |ptr cs=>exact⟨_,VWk.one CWk.ptr,H⟩
 |fn f ds=>
  rcases zjP H with⟨css,h1,H2⟩|H2
  ·rw[zjO] at H2;subst h1;exact⟨_,VWk.one CWk.fn,H2⟩
  ·exact⟨_,VWk.rfl,H2⟩
 |agg ds=>rw[agV,zdL] at H;exact⟨_,VWk.rfl,H⟩
 |_=>exact⟨_,VWk.rfl,H⟩
def agK:Nat→List D→(bg→Prop)→Prop
 |_,[],k=>k []
 |t,d::ds,k=>agV d fun v=>agK (t+1) ds fun l=>k ((t,v)::l)
theorem zhl:∀{ds:List D} {t:Nat} {k:bg→Prop},agK t ds k→∃l,(∀j,VWk (lk (XI t ds) j)<|lk l j)∧k l
 |[],_,_,H=>⟨[],fun _=>VWk.rfl,H⟩
 |d::ds,t,k,H=>by
  obtain⟨v,h1,H⟩:=zkO H;obtain⟨l,h2,H⟩:=zhl H;refine⟨_,fun j=> ?_,H⟩;simp only[XI,lk];split
  ·exact h1
  ·exact h2 j
theorem hdF{P:Program}{n:Nat}{ic:IC}{ts:List ZG}{f:FuncId}{ds rs:List D}(F:FI P n ic ts f)(H:agK 0 ds fun l=>AW P n ic (QS P n (ziJ ts rs) []) (mk l []<|lk []))(e:Nat.ble ds.length n=true:=by rfl):Fn P f (lent ds) true rs:=by
 obtain⟨l,h1,H⟩:=zhl H;refine F (fle e) ?_;rw[zid];exact AW.weaken (zkz (s:=mk (XI 0 ds) [] (Y1 ds)) (t:=mk l [] (lk [])) h1 O fun _=>rfl) H
theorem zMM{P:Program}{n:Nat}{ic:IC}{ts:List ZG}{f:FuncId}{ds rs:List D}(F:FB P n ic ts f)(H:agK 0 ds fun l=>AW P n ic (QS P n (zgQ ts rs) []) (mk l []<|lk []))(e:Nat.ble ds.length n=true:=by rfl):Fn P f (lent ds) false rs:=by
 obtain⟨l,h1,H⟩:=zhl H;refine F (fle e) ?_;rw[zid];exact AW.weaken (zkz (s:=mk (XI 0 ds) [] (Y1 ds)) (t:=mk l [] (lk [])) h1 O fun _=>rfl) H
def amK:Nat→List Ar→(bg→Prop)→Prop
 |_,[],k=>k []
 |t,⟨d,.b⟩::as,k=>agV d fun v=>amK (t+1) as fun l=>k ((t,v)::l)
 |_,_::_,_=>False
theorem zjG:∀{as:List Ar} {t:Nat} {k:bg→Prop},amK t as k→∃l,(∀j,VWk (lk (zen t (ZH t as).1) j)<|lk l j)∧(ZH t as).2=[]∧ghL t as (ZH t as).1=[]∧k l
 |[],_,_,H=>⟨[],fun _=>VWk.rfl,rfl,rfl,H⟩
 |⟨d,.b⟩::as,t,k,H=>by
  obtain⟨v,h1,H⟩:=zkO H;obtain⟨l,h2,h3,h4,H⟩:=zjG (as:=as) H;refine⟨_,fun j=> ?_,?_,?_,H⟩
  ·simp only[ZH,Md.owned,Bool.false_eq_true,if_false,zen,lk];split
   ·exact h1
   ·exact h2 j
  ·simp only[ZH,Md.owned,Bool.false_eq_true,if_false,h3]
  ·simp only[ZH,Md.owned,Bool.false_eq_true,if_false,ghL,h4]
 |⟨d,.g⟩::as,t,k,H=>H.elim
 |⟨d,.m _⟩::as,t,k,H=>H.elim
 |⟨d,.z⟩::as,t,k,H=>H.elim
def zvN(cs:List D)(k:Blk→Prop):Prop:=match cs.all D.flat with
 |true=>mpK cs fun cc=>zjg (fun m=>k (.vars m cc)) cs 0
 |false=>k (.own cs)
theorem zlG{cs:List D}{k:Blk→Prop}:zvN cs k=k (if cs.all D.flat then .vars cs.length (cs.map C.d) else .own cs):=by
 unfold zvN;cases cs.all D.flat with
 |true=>simp only[zdL,zdc,Nat.zero_add,if_true]
 |false=>rfl
theorem hdM{P:Program}{n:Nat}{ic:IC}{ts:List ZG}{f:FuncId}{cs:List D}{d':D}{as:List Ar}{rs:List D}(F:FM P n ic ts f)
  (H:zvN cs fun b=>amK 1 as fun l=>AW P n ic (QS P n (X5 (⟨.ptr cs,.m d'⟩::as) ts rs) []) (mk ((0,.one<|.ptr<|.nm 0 0 0)::l) [(0,b)]<|lk [(0,.one<|.ptr<|.nm 0 0 0)])) (e:Nat.ble (as.length+1) n=true:=by rfl):Fn P f (⟨.ptr cs,.m d'⟩::as) true rs:=by
 rw[zlG] at H;obtain⟨l,h1,h2,h3,H⟩:=zjG H;have e2:(ZH 0 (⟨.ptr cs,.m d'⟩::as)).2=[(0,if cs.all D.flat then .vars cs.length (cs.map C.d) else .own cs)]:=by
  simp only[ZH,Md.owned,if_true,JZ,QA,h2,Nat.mul_zero,Nat.zero_add,List.append_nil]
 have e1:(ZH 0 (⟨.ptr cs,.m d'⟩::as)).1= .one (.ptr<|.nm 0 0 0)::(ZH 1 as).1:=by
  simp only[ZH,Md.owned,if_true,JZ,QA,Nat.mul_zero,Nat.zero_add]
 have e3:ghL 0 (⟨.ptr cs,.m d'⟩::as) (ZH 0 (⟨.ptr cs,.m d'⟩::as)).1=[(0,.one<|.ptr<|.nm 0 0 0)]:=by
  rw[e1];simp only[ghL,Nat.zero_add,h3]
 refine F (fle e) ?_ ?_ ?_
 ·rw[e2];exact⟨rfl,by simp,trivial⟩
 ·rw[e2];rfl
 ·rw[XY,e2,e3,e1];refine AW.weaken (zfV (s:=mk (zen 0 (.one (.ptr<|.nm 0 0 0)::(ZH 1 as).1)) _ _) (t:=mk ((0,.one<|.ptr<|.nm 0 0 0)::l) _ _) (fun k m hh x hv=> ?_) O fun _=>rfl) H;have hv:qK m hh (lk (zen 0 (.one (.ptr<|.nm 0 0 0)::(ZH 1 as).1)) k) x:=hv;show qK m hh (lk ((0,.one<|.ptr<|.nm 0 0 0)::l) k) x;simp only[zen,lk] at hv ⊢;split
  ·rename_i e;rw[if_pos e] at hv;exact hv
  ·rename_i e;rw[if_neg e] at hv;exact h1 k m hh x hv
def imV(d:D)(k:V→Prop):Prop:=match d with
 | .agg ds=>mpK ds fun cs=>k (.agg cs)
 |d=>k (.one<|.d d)
theorem zjp{d:D}{k:V→Prop}:imV d k=k (zcA d):=by
 cases d<;>first|rfl|exact zdL
def zmA:List D→(List V→Prop)→Prop
 |[],k=>k []
 |d::ds,k=>imV d fun v=>zmA ds fun vs=>k (v::vs)
theorem zix:∀{ds:List D} {k:List V→Prop},zmA ds k=k (ds.map zcA)
 |[],_=>rfl
 |d::ds,k=>by simp only[zmA,zjp,zix,List.map_cons]
def imR(rs:List D)(k:V→Prop):Prop:=match rs with
 |[r]=>imV r k
 |rs=>zmA rs fun vs=>k (.tup vs)
theorem zpN{rs:List D}{k:V→Prop}:imR rs k=k (XK rs):=by
 match rs with
 |[]=>rfl
 |[r]=>exact zjp
 |r::q::rs=>exact zix
section
variable {P:Program} {l:bg} {h h2:bh} {g:Nat→V} {Q:St→Prop} {rs:List RO} {dep:Nat} {A:List Nat} {d:Nat}
theorem zC{f:FuncId}{fo:Opd}{fv:V}{us:List V}{args:List Opd}{vs:List V}{ds rs':List D}(hf:Fn P f (lent ds) true rs')(K:imR rs' fun u=>RG P rs (mk ((d,u)::l) h g) Q)
  (hf0:Ev l fo fv:=by exact aE) (hcl:Cl fv f us:=by exact Cl.fn) (ha:Evs l args vs:=by exact aEs) (hd:VDs (zZ A h) (vs++us) ds:=by exact zGi):
  RG P (⟨⟨none,.callv d fo args⟩,dep,A⟩::rs) (mk l h g) Q:=zpa hf0 hcl hf ha hd O (zpN (k:=fun u=>RG P rs (mk ((d,u)::l) h g) Q)▸K)
structure BCs(n:Nat)(ds:List D)(cs:List C)(B:bh):Prop where
 h:jN n ds=(cs,B)
structure BV(n:Nat)(d:D)(v:V)(B:bh):Prop where
 h:JZ n d=(v,B)
structure BVs(n:Nat)(ds:List D)(vs:List V)(B:bh):Prop where
 h:Zt n ds=(vs,B)
structure BR(n:Nat)(ds:List D)(v:V)(B:bh):Prop where
 h:ZP n ds=(v,B)
theorem zE8{n:Nat}:BCs n [] [] []:=⟨rfl⟩
theorem zHr{n sz:Nat}{α:Type}{f:α→List D}{xs:List α}{ds:List D}{cs:List C}{B:bh}(h:BCs (n+1) ds cs B):BCs n (.sl sz (xs.map f)::ds) (.sl n 0 xs.length::cs) ((n,.data sz (xs.map f) true none)::B):=
 ⟨by simp only[jN,QA,h.h,List.length_map,List.singleton_append]⟩
theorem zFc{n:Nat}{d:D}{ds:List D}{cs:List C}{B:bh}(hd:d.flat=true)(h:BCs (n+1) ds cs B):BCs n (d::ds) (C.d d::cs) B:=
 ⟨by cases d<;>first|(cases hd;done)|simp only[jN,QA,h.h,List.nil_append]⟩
theorem zIX{n:Nat}{ds:List D}{cs:List C}{B:bh}(h:BCs n ds cs B):BV n (.agg ds) (.agg cs) B:=⟨by simp only[JZ,h.h]⟩
theorem zHk{n sz:Nat}{α:Type}{f:α→List D}{xs:List α}:BV n (.sl sz<|xs.map f) (.one<|.sl n 0 xs.length) [(n,.data sz (xs.map f) true none)]:=⟨by simp only[JZ,QA,List.length_map]⟩
theorem zFS{n:Nat}{d:D}(hd:d.flat=true):BV n d (.one<|.d d) []:=⟨by cases d<;>first|(cases hd;done)|rfl⟩
theorem zG9{n:Nat}{cs:List D}{b:Blk}(hb:(if cs.all D.flat then Blk.vars cs.length (cs.map C.d) else .own cs)=b):BV n (.ptr cs) (.one<|.ptr<|.nm n 0 0) [(n,b)]:=by subst hb;exact⟨rfl⟩
theorem zJA{n:Nat}:BVs n [] [] []:=⟨rfl⟩
theorem zMv{n:Nat}{x:D}{xs:List D}{v:V}{vs:List V}{B:bh}(h:BV n x v [])(h':BVs (n+16) xs vs B):BVs n (x::xs) (v::vs) B:=⟨by simp only[Zt,h.h,h'.h,List.nil_append]⟩
theorem zFt{n:Nat}{x:D}{xs:List D}{v:V}{vs:List V}{p:Nat×Blk}{B:bh}(h:BV n x v [p])(h':BVs (n+16) xs vs B):BVs n (x::xs) (v::vs) (p::B):=⟨by simp only[Zt,h.h,h'.h,List.singleton_append]⟩
theorem zKx{n:Nat}{x:D}{xs:List D}{v:V}{vs:List V}{A B E:bh}(h:BV n x v A)(h':BVs (n+16) xs vs B)(e:A++B=E):BVs n (x::xs) (v::vs) E:=⟨by simp only[Zt,h.h,h'.h,e]⟩
theorem zKl{n:Nat}{r:D}{u:V}{B:bh}(h:BV n r u B):BR n [r] u B:=⟨h.h⟩
theorem zIc{n:Nat}{r q:D}{rs:List D}{us:List V}{B:bh}(h:BVs n (r::q::rs) us B):BR n (r::q::rs) (.tup us) B:=⟨by simp only[ZP,h.h]⟩
theorem zI2{n:Nat}:BR n [] (.tup []) []:=⟨rfl⟩
theorem zLP{α:Type}{B:List α}:[]++B=B:=rfl
theorem zMA{α:Type}{a:α}{A B C:List α}(h:A++B=C):(a::A)++B=a::C:=by rw[List.cons_append,h]
theorem zId{α:Type}{h:List α}:([]:List α).reverse++h=h:=rfl
theorem zMW{α:Type}{p:α}{B h h2:List α}(e:B.reverse++(p::h)=h2):(p::B).reverse++h=h2:=by rw[List.reverse_cons,List.append_assoc];exact e
theorem aRv{α:Type}{B h h2:List α}(e:B.reverse++h=h2:=by repeat' first|exact zId|apply zMW):B.reverse++h=h2:=e
theorem aBR{n:Nat}{rs:List D}{u:V}{B:bh}(h:BR n rs u B:=by
 repeat' first
  |exact zI2|apply zKl|apply zIc|exact zE8|apply zHr|(apply zFc;exact O)|exact zHk|apply zIX|(apply zFS;exact O)|(apply zG9;exact O)
  |exact zJA|(apply zFt;exact zHk)|(apply zMv;(apply zFS;exact O))|(apply zFt;(apply zG9;exact O))|apply zKx|exact zLP|apply zMA):ZP n rs=(u,B):=h.h
theorem aFr{h:bh}{ns:List Nat}(H:qp (mk [] h fun _=> .top) ns:=by repeat' first|exact fN|(apply fC;(exact aN);exact O)):qp (mk [] h fun _=> .top) ns:=H
theorem zCN{f:FuncId}{fo:Opd}{fv:V}{us:List V}{args:List Opd}{vs:List V}{ds rs':List D}{u:V}{bs:bh}(hf:Fn P f (lent ds) true rs')(K:RG P rs (mk ((d,u)::l) h2 g) Q)
  (hf0:Ev l fo fv:=by exact aE) (hcl:Cl fv f us:=by exact Cl.fn) (ha:Evs l args vs:=by exact aEs) (hd:VDs (zZ A h) (vs++us) ds:=by exact zGi) (hu:ZP (d * 64) rs'=(u,bs):=by exact aBR) (hn0:zj4 d bs=true:=by rfl)
  (hfr:qp (mk [] (zZ A h) fun _=> .top) ((d * 64+63)::bs.map (·.1)):=by exact aFr) (hh:bs.reverse++h=h2:=by exact aRv):
  RG P (⟨⟨none,.callv d fo args⟩,dep,A⟩::rs) (mk l h g) Q:=zj8 hf0 hcl hf ha hd hu hn0 hfr (hh▸K)
end
end Go.AW
