/- A slice that lies in a variable and in a row of its own as well: the row's cell is held to be that value, so that a store through it is a store to the row. Lemmas. Conditions: none. -/
import Derived.Test.YtlcjjljmjdmobaaYk
set_option linter.unusedVariables false
namespace Go.AW
abbrev Xo(x:List D):List D:=x
theorem kg(X:List (List D)):X.map Xo=X:=List.map_id' X
theorem zE.swapB{cx:Cx}{m:M}{s:St}{a:Act}{w:World}(R:zE cx m s a w){n:Nat}{k k':Blk}(hk:s.hp n=some k)(H:∀f,m.inf n=some f→zY cx m w.heap n (some k) (some f)→zY cx m w.heap n (some k') (some f)):zE cx m (s.blk n k') a w:=by
 refine⟨R.size,R.defers,R.sl,fun j=> ?_,R.own,R.fr,R.gh⟩
 show zY cx m w.heap j (if j=n then some k' else s.hp j) _
 by_cases e:j=n
 ·subst e
  rw[if_pos rfl]
  have A:=R.hp j
  rw[hk] at A
  cases hi:m.inf j with
  |none=>rw[hi] at A;exact A.elim
  |some f=>rw[hi] at A;exact H f hi A
 ·rw[if_neg e];exact R.hp j
theorem zY.cell{cx:Cx}{m:M}{h:Hp}{n sz i j:Nat}{f:NI}{X:List (List D)}{cp:Option Nat}{e:List D}{d:D}(A:zY cx m h n (some (.data sz X true cp)) (some f))(hxe:X[i]? =some e)(hej:e[j]? =some d):
  ∃u bu,Rd true h d u bu∧(∀b∈bu,m.own b=some n∧f.blk≠some b)∧∀d',d'.isCell=true→Rd true h d' u bu→zY cx m h n (some (.data sz (X.set i (e.set j d')) true cp)) (some f):=by
 unfold zY at A
 cases hb:f.blk with
 |none=>
  simp only[hb] at A
  obtain⟨_,_,_,_,e0,_⟩:=A
  cases e0
  simp at hxe
 |some b=>
  simp only[hb] at A
  obtain⟨g1,g2,cells,T,g4,g5,g6,g6',bs,g8,g9,g10⟩:=A
  obtain⟨u,bu,p,q,hu,hr,rfl,hset⟩:=g8.focus hxe hej
  obtain⟨hnd,hown⟩:=g9 rfl
  refine⟨u,bu,hr,fun c hc=>by rw[←hb];exact hown c (by simp[hc]),fun d' hc hd'=> ?_⟩
  unfold zY
  simp only[hb]
  exact⟨g1,g2,cells,T,g4,g5,g6,g6',p++bu++q,hset h d' bu (fun _ _=>rfl) hc hd',fun _=>⟨hnd,hown⟩,fun h=>by cases h⟩
theorem zE.pin{cx:Cx}{m:M}{s:St}{a:Act}{w:World}(R:zE cx m s a w){n sz i j z:Nat}{X:List (List D)}{cp:Option Nat}{e:List D}{ys:List (List D)}(hk:s.hp n=some (.data sz X true cp))(hxe:X[i]? =some e)(hej:e[j]? =some (.sl z ys)):
  ∃v,zE cx m (s.blk n (.data sz (X.set i (e.set j (.both v (.sl z ys)))) true cp)) a w:=by
 have A:=R.hp n
 rw[hk] at A
 cases hi:m.inf n with
 |none=>rw[hi] at A;exact A.elim
 |some f=>
  rw[hi] at A
  obtain⟨u,bu,hr,_,hset⟩:=A.cell hxe hej
  refine⟨u,R.swapB hk fun f' hf' A'=> ?_⟩
  rw[hi] at hf'
  cases hf'
  exact hset _ rfl (by simp only[Rd] at hr ⊢;exact⟨⟨trivial,by obtain⟨_,_,rfl,_⟩:=hr;rfl⟩,hr⟩)
section
variable {P:Program} {nn:Nat} {L:List RO} {Q:St→Prop} {l l' gl gl':List (Nat×V)} {h h':List (Nat×Blk)} {g:Nat→V}
theorem ze9{α β:Type}{f:α→List D}{f':β→List D}{n i j sz z:Nat}{cp:Option Nat}{xs:List α}{t:α}{ys:List β}{e:Value→List D}(hb:LB h n (.data sz (xs.map f) true cp))(hi:xs[i]? =some t)
  (hj:(f t)[j]? =some (.sl z (ys.map f'))) (he:∀v,(f t).set j (.both v (.sl z (ys.map f')))=e v)
  (K:∀v,RM P nn L (mk l ((n,.data sz (((xs.map f).set i (e v)).map Xo) true cp)::h) g) Q):RM P nn L (mk l h g) Q:=⟨fun gs hL cx ops lo m a w Qx hP hn hm R hQ=>by
 obtain⟨v,R'⟩:=R.pin (n:=n) (i:=i) (e:=f t) hb (by rw[List.getElem?_map,hi];rfl) hj
 rw[he] at R'
 have K:=(K v).out
 rw[kg] at K
 exact K gs hL cx ops lo m a w Qx hP hn hm R' hQ⟩
theorem K5{α:Type}{f:α→List D}{xs:List α}{i:Nat}{t:α}{e:List D}(hi:xs[i]? =some t):((xs.map f).set i e)[i]? =some e:=by
 obtain⟨h1,_⟩:=List.getElem?_eq_some_iff.1 hi
 rw[List.getElem?_set_self (by simpa using h1)]
theorem zA.swap{α β:Type}{R:α→β→Prop}{c':α}:∀{as:List α} {bs:List β} {i:Nat} {c:α},zA R as bs→as[i]? =some c→(∀b,R c b→R c' b)→zA R (as.set i c') bs
 |[],_,_,_,_,h,_=>by simp at h
 |a::as,[],_,_,H,_,_=>H.elim
 |a::as,b::bs,0,c,H,h,k=>by
  simp only[List.getElem?_cons_zero,Option.some.injEq] at h
  subst h
  exact⟨k _ H.1,H.2⟩
 |a::as,b::bs,i+1,c,H,h,k=>⟨H.1,zA.swap H.2 (by simpa using h) k⟩
theorem zY.var{cx:Cx}{m:M}{hp:Hp}{n sz:Nat}{f:NI}{cs cs':List C}(A:zY cx m hp n (some (.vars sz cs)) (some f))(H:∀L,zA (jB m hp) cs L→zA (jB m hp) cs' L):zY cx m hp n (some (.vars sz cs')) (some f):=by
 unfold zY at A ⊢
 cases hb:f.blk with
 |none=>
  simp only[hb] at A
  obtain⟨_,_,_,_,e0,_⟩:=A
  cases e0
 |some b=>
  simp only[hb] at A ⊢
  obtain⟨g1,g2,cells,T,g4,g5,g6,g7⟩:=A
  exact⟨g1,g2,cells,T,g4,g5,g6,H _ g7⟩
theorem zbz{k nv q n z:Nat}{cs cs':List C}{v:Value}{xs:List (List D)}(hb:LB h nv (.vars k cs))(hq:cs[q]? =some (.sub n (.both v (.sl z xs))))(hc:cs.set q (.d (.pin v))=cs'):Wk (mk l ((nv,.vars k cs')::h) g) (mk l h g):=fun cx a w ⟨m,R⟩=>by
 subst hc
 refine⟨m,R.swapB (n:=nv) hb fun f _ A=>A.var fun L HL=>HL.swap hq fun u hu=> ?_⟩
 obtain⟨h1,_,_,bs,hr,_⟩:=hu
 simp only[Rd] at hr
 obtain⟨⟨e,_⟩,ad,cap,e2,_⟩:=hr
 exact⟨h1,[],by simp only[Rd];exact⟨⟨e,ad,_,cap,e2⟩,trivial⟩,by simp⟩
theorem zbw{k nv q n z i j sz:Nat}{cs cs':List C}{v:Value}{ys:List (List D)}{X:List (List D)}{e:List D}{cp:Option Nat}(hb:LB h n (.data sz (X.map Xo) true cp))(hxe:X[i]? =some e)(hej:e[j]? =some (.both v (.sl z ys)))
  (hv:LB h nv (.vars k cs)) (hq:cs[q]? =some (.d (.pin v))) (hc:cs.set q (.sub n (.sl z ys))=cs'):Wk (mk l ((nv,.vars k cs')::h) g) (mk l h g):=fun cx a w ⟨m,R⟩=>by
 subst hc
 have A:=R.hp n
 have hb':(mk l h g).hp n=some (.data sz X true cp):=by rw[←kg X];exact hb
 rw[hb'] at A
 cases hi:m.inf n with
 |none=>rw[hi] at A;exact A.elim
 |some f=>
  rw[hi] at A
  obtain⟨u,bu,hr,hown,_⟩:=A.cell hxe hej
  simp only[Rd] at hr
  refine⟨m,R.swapB (n:=nv) hv fun f' _ A'=>A'.var fun L HL=>HL.swap hq fun u' hu=> ?_⟩
  obtain⟨h1,bs,hr',_⟩:=hu
  simp only[Rd] at hr'
  have e1:=hr.1.1
  have e2:=hr'.1.1
  have:u=u':=by rw[←e1,e2]
  subst this
  exact⟨h1,f,hi,bu,Rd.weak _ _ _ (by simp only[Rd];exact hr.2),fun b hb=>⟨.inr (hown b hb).1,(hown b hb).2⟩⟩
theorem ks{α:Type}{f:α→List D}{n sz i j:Nat}{cp:Option Nat}{xs:List α}{t t':α}{e:List D}{v:Value}{d:D}(hb:LB h n (.data sz (((xs.map f).set i e).map Xo) true cp))(hi:xs[i]? =some t)(hej:e[j]? =some (.both v d))(hd:d.isCell=true)(he:e.set j d=f t'):
  Wk (mk l ((n,.data sz ((xs.set i t').map f) true cp)::h) g) (mk l h g):=fun cx a w ⟨m,R⟩=>by
 have hb':(mk l h g).hp n=some (.data sz ((xs.map f).set i e) true cp):=by rw[←kg ((xs.map f).set i e)];exact hb
 refine⟨m,R.swapB (n:=n) hb' fun f' _ A=> ?_⟩
 obtain⟨u,bu,hr,_,hset⟩:=A.cell (K5 hi) hej
 have:=hset d hd (by simp only[Rd] at hr;exact hr.2)
 rw[List.set_set,he,←List.map_set] at this
 exact this
theorem zd9{α:Type}{f:α→List D}{n sz i j:Nat}{cp:Option Nat}{xs:List α}{t:α}{e:List D}{v:Value}{d:D}(hb:LB h n (.data sz (((xs.map f).set i e).map Xo) true cp))(hi:xs[i]? =some t)(hej:e[j]? =some (.both v d))(hd:d.isCell=true)(he:e.set j d=f t):
  Wk (mk l ((n,.data sz (xs.map f) true cp)::h) g) (mk l h g):=by
 have:=ks (l:=l) (g:=g) (t':=t) hb hi hej hd he
 obtain⟨h1,h2⟩:=List.getElem?_eq_some_iff.1 hi
 have e1:xs.set i t=xs:=by rw[←h2];exact List.set_getElem_self h1
 rwa [e1] at this
theorem znS{rs:List RO}{d dep sz n m:Nat}{A:List Nat}{x:Opd}{v0:Value}{xs:List (List D)}(hx:Ev l x (.one (.sub m (.both v0 (.sl sz xs)))))(hn:xs.length=n)(K:RG P rs (mk ((d,.one (.d (.int .i64 n)))::l) h g) Q):RG P (⟨⟨none,.len d false x⟩,dep,A⟩::rs) (mk l h g) Q:=
 jz (by simp) (by simp[AW.ev,hx.ev,St.lenOf,hn]) K
theorem znH{rs:List RO}{d dep:Nat}{A:List Nat}{x y:Opd}{k:IntKind}{a:Int}{α:Type}{f:α→List D}{sz m:Nat}{xs:List α}{t:α}{v0:Value}(hx:Ev l x (.one (.sub m (.both v0 (.sl sz (xs.map f))))))(hy:Ev l y (.one (.d (.int k a))))(hi:idx xs a=some t)(K:RG P rs (mk ((d,.one (.sub m (.ptr (f t))))::l) h g) Q):RG P (⟨⟨none,.iaddr d sz x y⟩,dep,A⟩::rs) (mk l h g) Q:=by
 obtain⟨h0,h1,_⟩:=xl hi
 exact jz (by simp) (by simp[AW.ev,hx.ev,hy.ev,St.at,h0,h1]) K
theorem zdM{rs:List RO}{d dep off m:Nat}{A:List Nat}{x:Opd}{cs cs':List D}(hx:Ev l x (.one (.sub m (.ptr cs))))(hc:(if off≤cs.length then some (cs.drop off) else none)=some cs')(K:RG P rs (mk ((d,.one (.sub m (.ptr cs')))::l) h g) Q):RG P (⟨⟨none,.faddr d off x⟩,dep,A⟩::rs) (mk l h g) Q:=by
 split at hc
 ·rename_i hle
  cases hc
  exact jz (by simp) (by simp[AW.ev,hx.ev,hle]) K
 ·cases hc
theorem zfa{rs:List RO}{d dep m:Nat}{A:List Nat}{x:Opd}{c:D}{cs:List D}(hx:Ev l x (.one (.sub m (.ptr (c::cs)))))(hf:c.flat=true)(K:RG P rs (mk ((d,.one (.d c))::l) h g) Q):RG P (⟨⟨none,.load d none x⟩,dep,A⟩::rs) (mk l h g) Q:=by
 have hl:ldC true m c= .d c:=by unfold ldC;rw[hf];rfl
 exact jz (by simp) (by simp[AW.ev,hx.ev,St.rd,Yd,hl]) K
end
theorem zdf{P:Program}{n:Nat}{o:Oper}{d sz:Nat}{x' y':Opd}(h1:Yy P n o=some (.iaddr d sz x' y')):∃t e x y,o.op= .indexAddr t x y∧P.underlying t=some (.slice e)∧szP P e=some sz∧o.dst=some d∧d < n∧zK x=some x'∧zK y=some y':=by
 unfold Yy at h1
 split at h1
 case h_24 c hop=>have:=JQ h1;cases this
 case h_19 t x y hop=>
  simp only[obi,omi] at h1
  obtain⟨d',hd,e,he,sz',hsz,x'',hx,y'',hy,h1⟩:=h1
  cases h1
  exact⟨t,e,x,y,hop,jy he,hsz,(zm hd).1,(zm hd).2,hx,hy⟩
 case h_25=>cases h1
 case h_9=>
  split at h1
  rotate_left
  ·cases h1
  simp only[obi,omi] at h1
  obtain⟨_,_,_,_,_,_,h1⟩:=h1
  cases h1
 all_goals
  rw[obi] at h1
  obtain⟨d,hd,h1⟩:=h1
  repeat' (first|(rw[obi] at h1;obtain⟨_,_,h1⟩:=h1)|(rw[omi] at h1;obtain⟨_,_,h1⟩:=h1;cases h1;done)|(split at h1)|(cases h1;done))
theorem zdv{P:Program}{n:Nat}{o:Oper}{d off:Nat}{x':Opd}(h1:Yy P n o=some (.faddr d off x')):∃t fs f fi k x,o.op= .fieldAddr t x fi∧P.underlying t=some (.struct fs)∧fs[fi]? =some f∧szP P f.type=some k∧k≠0∧f.offset=off∧o.dst=some d∧d < n∧zK x=some x':=by
 unfold Yy at h1
 split at h1
 case h_24 c hop=>have:=JQ h1;cases this
 case h_17 t x fi hop=>
  simp only[obi] at h1
  obtain⟨d',hd,fs,hfs,f,hf,k,hk,h1⟩:=h1
  split at h1
  ·cases h1
  rename_i h0
  simp only[omi] at h1
  obtain⟨x'',hx,h1⟩:=h1
  cases h1
  exact⟨t,fs,f,fi,k,x,hop,Qp hfs,hf,hk,h0,rfl,(zm hd).1,(zm hd).2,hx⟩
 case h_25=>cases h1
 case h_9=>
  split at h1
  rotate_left
  ·cases h1
  simp only[obi,omi] at h1
  obtain⟨_,_,_,_,_,_,h1⟩:=h1
  cases h1
 all_goals
  rw[obi] at h1
  obtain⟨d,hd,h1⟩:=h1
  repeat' (first|(rw[obi] at h1;obtain⟨_,_,h1⟩:=h1)|(rw[omi] at h1;obtain⟨_,_,h1⟩:=h1;cases h1;done)|(split at h1)|(cases h1;done))
theorem zc3{P:Program}{nn:Nat}{L:List RO}{s:St}{Q':St→Prop}{d1 d2 n i j sz z off ix:Nat}{zs:List D}{x' y' v':Opd}{v:Value}{kk:IntKind}{X ys:List (List D)}{cp:Option Nat}{e el:List D}{c:D}
  (hx:s.ev x'= .one (.sub n (.both v (.sl z ys)))) (hy:s.ev y'= .one (.d (.int kk (ix:Int)))) (hel:ys[ix]? =some el) (hk:s.hp n=some (.data sz X true cp)) (hxe:X[i]? =some e) (hej:e[j]? =some (.both v (.sl z ys))) (hn:n < 1000000)
  (hoff:off < el.length) (hv:((s.set d1 (.one .any)).set d2 (.one .any)).ev v'= .one (.d c)) (hc:c.flat=true)
  (h:RM0 P nn L ((((s.set d1 (.one .any)).set d2 (.one .any)).er [zR n]).blk n (.data sz (X.set i (e.set j (.both v (.sl z (ys.set ix (el.set off c)))))) true cp)) Q'):
  RM0 P nn (⟨⟨none,.iaddr d1 z x' y'⟩,0,[]⟩::⟨⟨none,.faddr d2 off (.t d1)⟩,0,[]⟩::⟨⟨none,.store 1 zs (.t d2) v'⟩,0,[]⟩::L) s Q':=fun gs hL cx ops l m a w Qx hP hn' hm R hQ=>by
 subst hP;subst hn'
 cases gs with
 |nil=>cases hL
 |cons g1 gs=>
 cases gs with
 |nil=>cases hL
 |cons g2 gs=>
 cases gs with
 |nil=>cases hL
 |cons g3 gs=>
 simp only[List.map_cons,List.cons.injEq,RO.mk.injEq,and_true] at hL
 obtain⟨rfl,rfl,rfl,hL⟩:=hL
 have hlen:=zcV hm
 cases l with
 |nil=>simp at hlen
 |cons o1 l=>
 cases l with
 |nil=>simp at hlen
 |cons o2 l=>
 cases l with
 |nil=>simp at hlen
 |cons o3 l=>
 simp only[List.mapM_cons,Option.pure_def,Option.bind_eq_bind,obi] at hm
 obtain⟨g1,hg1,gs1,⟨g2,hg2,gs2,⟨g3,hg3,gs3,hgs,he3⟩,he2⟩,he1⟩:=hm
 cases he3;cases he2;cases he1
 obtain⟨a1,a2,_⟩:=JM hg1
 obtain⟨b1,b2',_⟩:=JM hg2
 obtain⟨c1,c2,_⟩:=JM hg3
 obtain⟨t1,e1,x,y,hop1,hu1,hsz1,hd1,hlt1,hx1,hy1⟩:=zdf a1
 obtain⟨t2,fs,fd,fi,k2,x2,hop2,hu2,hfi,hsz2,hk0,hoffE,hd2,hlt2,hx2⟩:=zdv b1
 obtain⟨t3,x3,v3,hop3,hd3,hsz3,hx3,hv3⟩:=zah c1
 simp only[szP,omi] at hsz1 hsz2 hsz3
 obtain⟨i1,hi1,hin1⟩:=hsz1
 obtain⟨i2,hi2,hin2⟩:=hsz2
 obtain⟨i3,hi3,hin3⟩:=hsz3
 have hxv:=R.opd hx1
 rw[hx] at hxv
 obtain⟨_,_,_,_,hrx,_⟩:=hxv
 simp only[Rd] at hrx
 have hxe1:=hrx.1.1
 have hyv:=R.opd hy1
 rw[hy] at hyv
 have hyv:=Zu hyv
 have A:=R.hp n
 rw[hk] at A
 cases hf:m.inf n with
 |none=>rw[hf] at A;exact A.elim
 |some f=>
 obtain⟨b,cells,T,u,bu,hb,hfs,hh,hu,hr,hnd,hown,_⟩:=R.inner hf hk hxe hej hn
 simp only[Rd] at hr
 obtain⟨⟨rfl,hone⟩,ad,cap,rfl,hr⟩:=hr
 obtain⟨hixl,hixe⟩:=List.getElem?_eq_some_iff.1 hel
 rcases hr with⟨rfl,_⟩|⟨b',off',cells',T',fz,bs',rfl,hh',rfl,hle,hfit,ho,hrr⟩
 ·simp at hixl
 obtain⟨rfl,rfl⟩:=ho trivial
 rw[List.drop_zero] at hrr
 have hfits:=hrr.fits
 simp only[Array.length_toList] at hfits
 obtain⟨helz,_⟩:=RdLL.at hrr hel
 have hrow:(ix+1) * z≤ys.length * z:=Nat.mul_le_mul_right _ hixl
 have hrow':ix * z+z=(ix+1) * z:=by rw[Nat.succ_mul]
 have hrun1:(execOp a.eval o1).run cx.P w= .ok (.value (.pointer (some ⟨b',ix * z,none⟩))) w:=by
  have h0:(0:Int)≤(ix:Int):=by omega
  have hlt':(ix:Int) < (ys.length:Int):=by omega
  simp only[execOp,hop1,Instr.indexAt,hyv,←hxe1,asIntOf,Sem.run_bind,Sem.run_pure,Result.andThen_ok,zB hu1,h0,hlt',and_self,if_true,qC hi1,hin1,ZN,Int.toNat_natCast,Nat.zero_add]
 have R1:=R.set hlt1 (v:= .one .any) (u:= .pointer (some ⟨b',ix * z,none⟩)) ⟨rfl,trivial⟩
 have hev1:(a.put (some d1) (.pointer (some ⟨b',ix * z,none⟩))).eval x2= .pointer (some ⟨b',ix * z,none⟩):=by
  cases x2 with
  |tmp t=>
   simp only[zK,Option.some.injEq,Opd.t.injEq] at hx2
   subst hx2
   show(a.put (some t) _).tmps.getD t undef=_
   rw[KX (by rw[R.size];exact hlt1)];simp
  |const q=>simp only[zK,omi] at hx2;obtain⟨_,_,h⟩:=hx2;cases h
  |func q=>simp only[zK,Option.some.injEq] at hx2;cases hx2
  |global q=>cases hx2
 generalize hA1:a.put (some d1) (.pointer (some ⟨b',ix * z,none⟩))=A1 at R1 hev1
 have hrun2:(execOp A1.eval o2).run cx.P w= .ok (.value (.pointer (some ⟨b',ix * z+off,none⟩))) w:=by
  simp only[execOp,hop2,Instr.fieldAt,hev1,Instr.sureAddr,Sem.run_bind,Sem.run_pure,Result.andThen_ok,zB hu2,hfi,y9 hi2 hin2 hk0,hoffE]
 have R2:=R1.set hlt2 (v:= .one .any) (u:= .pointer (some ⟨b',ix * z+off,none⟩)) ⟨rfl,trivial⟩
 have hev2:(A1.put (some d2) (.pointer (some ⟨b',ix * z+off,none⟩))).eval x3= .pointer (some ⟨b',ix * z+off,none⟩):=by
  cases x3 with
  |tmp t=>
   simp only[zK,Option.some.injEq,Opd.t.injEq] at hx3
   subst hx3
   show(A1.put (some t) _).tmps.getD t undef=_
   rw[KX (by rw[R1.size];exact hlt2)];simp
  |const q=>simp only[zK,omi] at hx3;obtain⟨_,_,h⟩:=hx3;cases h
  |func q=>simp only[zK,Option.some.injEq] at hx3;cases hx3
  |global q=>cases hx3
 generalize hA2:A1.put (some d2) (.pointer (some ⟨b',ix * z+off,none⟩))=A2 at R2 hev2
 have hvv:=R2.opd hv3
 rw[hv] at hvv
 obtain⟨hvo,bsv,hrv,_⟩:=hvv
 have hbsv:=yA hc hrv
 subst hbsv
 have hcc:(A2.eval v3).cells=#[A2.eval v3]:=by
  revert hvo
  cases A2.eval v3<;>intro hvo<;>first|rfl|cases hvo
 have hcl:(A2.eval v3).cells.toList=[A2.eval v3]:=by rw[hcc]
 have hfit1:ix * z+off+1≤cells'.size:=by omega
 have hst:=run_storeCells_at cx.P b' (ix * z+off) T' [A2.eval v3] 0 cells' w hh' (by simpa using hfit1) (by
  intro q hq
  simp only[List.mem_singleton] at hq
  subst hq
  exact hvo)
 simp only[Nat.add_zero] at hst
 have hrun3:(execOp A2.eval o3).run cx.P w= .ok .skip (w.setRow b' (splice cells'.toList (ix * z+off) [A2.eval v3]).toArray):=by
  have hne:((A2.eval v3).cells.size≠1)=False:=by rw[hcc];simp
  simp only[execOp,hop3,hev2,Instr.storeAt,Instr.sureAddr,storeVar,Sem.run_bind,Sem.run_pure,Result.andThen_ok,qC hi3,hin3,hne,if_false,hcl,hst]
  simp[splice]
 obtain⟨b2,cells2,T2,u2,bu2,hb2,_,hh2,hu2',hr2,hnd2,hown2,hcont⟩:=R2.inner (s:=((s.set d1 (.one .any)).set d2 (.one .any))) hf hk hxe hej hn
 simp only[Rd] at hr2
 obtain⟨⟨hu2e,_⟩,ad2,cap2,hu2s,hr2⟩:=hr2
 rw[←hu2e] at hu2s
 cases hu2s
 rcases hr2 with⟨he0,_⟩|⟨b3,off3,cells3,T3,fz3,bs3,had3,hh3,hbu3,hle3,hfit3,ho3,hrr3⟩
 ·rw[he0] at hixl;simp at hixl
 cases had3
 rw[hh'] at hh3
 cases hh3
 rw[List.drop_zero] at hrr3
 subst hbu3
 have hnew:=setRow_heap w b' cells' (splice cells'.toList (ix * z+off) [A2.eval v3]).toArray T' (0,0) hh'
 have hother:∀c,c≠b'→(w.setRow b' (splice cells'.toList (ix * z+off) [A2.eval v3]).toArray).heap[c]? =w.heap[c]?:=fun c hc=>by
  simp only[World.setRow,Array.getElem?_modify]
  rw[if_neg (Ne.symm hc)]
 have hsize:(w.setRow b' (splice cells'.toList (ix * z+off) [A2.eval v3]).toArray).heap.size=w.heap.size:=by simp[World.setRow]
 have hos:(w.setRow b' (splice cells'.toList (ix * z+off) [A2.eval v3]).toArray).os=w.os∧(w.setRow b' (splice cells'.toList (ix * z+off) [A2.eval v3]).toArray).tape=w.tape∧(w.setRow b' (splice cells'.toList (ix * z+off) [A2.eval v3]).toArray).output=w.output:=⟨rfl,rfl,rfl⟩
 have hlenS:(splice cells'.toList (ix * z+off) [A2.eval v3]).length=cells'.size:=by
  rw[Q7 (by simpa using hfit1)];simp
 generalize w.setRow b' (splice cells'.toList (ix * z+off) [A2.eval v3]).toArray=w' at hrun3 hnew hother hsize hos
 obtain⟨hnb,hnd3⟩:=List.nodup_cons.1 hnd2
 have H3:RdLL true w'.heap z ys cells'.toList bs3:=RdLL.congr _ _ _ _ (fun q hq=>hother q (fun e=>hnb (e▸hq))) hrr3
 have Kv:RdL true w'.heap [c] [A2.eval v3] []:=by
  have hci:c.isCell=true:=by cases c<;>first|rfl|cases hc
  have:RdL false w.heap [c] [A2.eval v3] []:=by
   simp only[RdL]
   exact⟨_,[],[],[],rfl,rfl,hci,hrv,by trivial⟩
  exact RdL.congr _ _ _ (fun _ h=>by cases h) (RdL.flat (by simpa using hc) this).2
 obtain⟨p,q,hset,hsub⟩:=RdLL.store (i:=ix) (j:=off) H3 hel (ds:=[c]) (by simp;omega) Kv
 have e1:splice el off [c]=el.set off c:=by
  unfold splice
  rw[List.set_eq_take_append_cons_drop,if_pos hoff]
  simp
 rw[e1] at hset
 have hu22:cells.toList=cells.toList:=rfl
 have R3:=hcont w' [] (b'::(p++[]++q)) (.both (.slice (some ⟨b',0,none⟩) ys.length cap) (.sl z (ys.set ix (el.set off c)))) hos.1 hos.2.1 hos.2.2 (by omega)
  (fun k hk' hkb=>hother k (fun e=>hkb (by simp[e]))) rfl
  (by
   rw[←hu2e]
   simp only[Rd]
   refine⟨⟨trivial,rfl⟩,some ⟨b',0,none⟩,cap,by rw[List.length_set],.inr ⟨b',0,_,T',(0,0),p++[]++q,rfl,hnew,rfl,by rw[List.length_set];omega,?_,fun _=>⟨rfl,rfl⟩,?_⟩⟩
   ·rw[List.size_toArray,hlenS];omega
   ·rw[List.drop_zero];exact hset)
  (by
   rw[List.append_nil]
   exact List.nodup_cons.2 ⟨fun hm=>hnb (hsub.subset hm),List.Nodup.sublist hsub hnd3⟩)
  (fun k hk'=> .inr (by
   rw[List.append_nil] at hk'
   rcases List.mem_cons.1 hk' with rfl|hk'
   ·simp
   ·exact List.mem_cons_of_mem _ (hsub.subset hk')))
  (fun k hk'=>by cases hk') (fun k hk'=>by cases hk')
 have step3:wpList cx.P ops Qx (o3::l) A2 w:=by
  unfold wpList
  have hw:Region.wanted o3 (yielded ops A2.tmps)=true:=by simp[Region.wanted,c2 rfl]
  rw[if_pos hw]
  refine .inl (XA hrun3 ?_)
  rw[hd3]
  exact h gs hL cx ops l _ _ _ Qx rfl rfl hgs R3 hQ
 have step2:wpList cx.P ops Qx (o2::o3::l) A1 w:=by
  unfold wpList
  have hw:Region.wanted o2 (yielded ops A1.tmps)=true:=by simp[Region.wanted,b2' rfl]
  rw[if_pos hw]
  exact .inl (jN hrun2 (by rw[hd2,hA2];exact step3))
 unfold wpList
 have hw:Region.wanted o1 (yielded ops a.tmps)=true:=by simp[Region.wanted,a2 rfl]
 rw[if_pos hw]
 exact .inl (jN hrun1 (by rw[hd1,hA1];exact step2))
section
variable {P:Program} {nn:Nat} {L:List RO} {Q:St→Prop} {l l' gl gl':List (Nat×V)} {h h':List (Nat×Blk)}
theorem kD{α β:Type}{f:α→List D}{f':β→List D}{d1 d2 n i j sz z off:Nat}{zs:List D}{x y v':Opd}{v:Value}{kk:IntKind}{a:Int}{xs:List α}{t:α}{ys:List β}{u u':β}{cp:Option Nat}{e e':List D}{c:D}
  (hx:Ev l x (.one (.sub n (.both v (.sl z (ys.map f')))))) (hy:Ev l y (.one (.d (.int kk a)))) (hi:idx ys a=some u) (hb:LB h n (.data sz (((xs.map f).set i e).map Xo) true cp)) (ht:xs[i]? =some t) (hej:e[j]? =some (.both v (.sl z (ys.map f')))) (hn:Nat.blt n 1000000=true)
  (hv:Ev ((d2,.one .any)::(d1,.one .any)::l) v' (.one (.d c))) (hc:c.flat=true) (hu:(if off < (f' u).length then some ((f' u).set off c) else none)=some (f' u')) (he:e.set j (.both v (.sl z ((ys.set a.toNat u').map f')))=e')
  (h1:erL [zR n] ((d2,.one .any)::(d1,.one .any)::l) l') (h2:erH [zR n] h h') (h3:erL [zR n] gl gl')
  (K:RM P nn L (mk l' ((n,.data sz (((xs.map f).set i e').map Xo) true cp)::h') (lk gl')) Q):
  RM P nn (⟨⟨none,.iaddr d1 z x y⟩,0,[]⟩::⟨⟨none,.faddr d2 off (.t d1)⟩,0,[]⟩::⟨⟨none,.store 1 zs (.t d2) v'⟩,0,[]⟩::L) (mk l h (lk gl)) Q:=by
 obtain⟨h0,hix,_⟩:=xl hi
 split at hu
 rotate_left
 ·cases hu
 rename_i hoff
 have hu:=Option.some.inj hu
 have hb':(mk l h (lk gl)).hp n=some (.data sz ((xs.map f).set i e) true cp):=by rw[←kg ((xs.map f).set i e)];exact hb
 have hy':=hy.ev (h:=h) (g:=lk gl)
 rw[show a=((a.toNat:Nat):Int) by omega] at hy'
 refine⟨zc3 (e:=e) (el:=f' u) (ys:=ys.map f') (X:=(xs.map f).set i e) hx.ev hy' (by rw[List.getElem?_map,hix];rfl) hb' (K5 ht) hej (by rwa [Nat.blt_eq] at hn) hoff hv.ev hc ?_⟩
 have e0:(((mk l h (lk gl)).set d1 (.one .any)).set d2 (.one .any))=mk ((d2,.one .any)::(d1,.one .any)::l) h (lk gl):=rfl
 rw[e0,zaE h1 h2 h3,hu,←List.map_set,he,List.set_set]
 have K:=K.out
 rw[kg] at K
 exact K
end
section
variable {P:Program} {nn:Nat} {L:List RO} {Q:St→Prop} {l l' gl gl':List (Nat×V)} {h h':List (Nat×Blk)} {g:Nat→V} {d:Nat} {x y:Opd} {s t:St}
theorem HS.appAbs{s:St}{d sz bytes:Nat}{zs:List D}{x' y':Opd}{n len yn:Nat}{xs:List (List D)}{cp:Option Nat}{cs:List C}{ds:List D}{ns:List Nat}(hxv:s.ev x'= .one (.sl n 0 len))(hk:s.hp n=some (.data sz xs true cp))(hlen:len=xs.length)(hyv:s.ev y'= .one (.sl yn 0 1))(hyk:s.hp yn=some (.vars sz cs))(hcl:cs.length=sz)
  (hO:cOs s cs ds ns) (hnd:ns.Nodup) (hnn:n∉ns) (hlt:∀k∈ns,k < 1000000) (hn1:n < 1000000) (hb1:xs.length+1≤big) (hb2:bytes≤65536):
  HS s (.app d sz bytes zs x' y') ((((s.er ns).er [n]).blk n (.data sz (xs++[ds]) true none)).set d (.one (.sl n 0 (xs.length+1)))):=fun cx m o a w K Q ho R hK=>by
 obtain⟨x,y,t,e,i,z,hop,ht,hi,hz,rfl,hzs,rfl,hd,hdn,hx,hy⟩:=zcZ ho
 exact zaK R hop ht hi hz hzs hd hdn hx hy hxv hk hlen hyv hyk hcl hO hnd hnn hlt hn1 hb1 hb2 hK
theorem zfe{α:Type}{f:α→List D}{n len yn sz bytes q:Nat}{zs:List D}{cs:List C}{ds:List D}{ns:List Nat}{cp:Option Nat}{xs:List α}{t:α}{l1 l2 gl1 gl2:List (Nat×V)}{hh1 hh2:List (Nat×Blk)}(hx:Ev l x (.one (.sl n 0 len)))(hy:Ev l y (.one (.sl yn 0 1)))(hb:LB h n (.data sz (xs.map f) true cp))(hl:xs.length=len)(hyb:LB h yn (.vars sz cs))(hcl:cs.length=sz)
  (hO:VOs h cs ds ns) (hok:Ks n ns=true) (hn:Nat.blt n 1000000=true) (hds:ds=f t) (hq:(xs++[t]).length=q) (hle:q≤2147483648) (hby:bytes≤65536) (h1:erL ns l l1) (h2:erH ns h hh1) (h3:erL ns gl gl1) (h4:erL [n] l1 l2) (h5:erH [n] hh1 hh2) (h6:erL [n] gl1 gl2)
  (K:RUs P L (mk ((d,.one (.sl n 0 q))::l2) ((n,.data sz ((xs++[t]).map f) true none)::hh2) (lk gl2)) Q):RUs P (⟨⟨none,.app d sz bytes zs x y⟩,0,[]⟩::L) (mk l h (lk gl)) Q:=by
 subst hl;subst hq;subst hds
 unfold Ks at hok
 simp only[Bool.and_eq_true,decide_eq_true_eq,Bool.not_eq_true',List.all_eq_true] at hok
 refine⟨.inr ⟨rfl,.inr (.inr ⟨_,rfl,HS.appAbs (n:=n) (yn:=yn) (ds:=f t) (ns:=ns) hx.ev hb (by simp) hy.ev hyb hcl hO.cOs hok.1.1 (fun hm=>by have:=hok.1.2;rw[List.contains_iff_mem.2 hm] at this;cases this) (fun k hk=>by have:=hok.2 k hk;rwa [Nat.blt_eq] at this) (by rwa [Nat.blt_eq] at hn) (by unfold big;simp at hle ⊢;omega) hby,?_⟩)⟩⟩
 rw[zaE h1 h2 h3,zaE h4 h5 h6]
 have K:=K.out
 simp only[List.map_append,List.map_cons,List.map_nil,List.length_append,List.length_cons,List.length_nil,Nat.zero_add] at K
 rw[List.length_map]
 exact K
end
theorem zE.absF{cx:Cx}{m:M}{s:St}{a:Act}{w:World}(R:zE cx m s a w){yn sz:Nat}{cs:List C}{ds:List D}{ns:List Nat}(hk:s.hp yn=some (.vars sz cs))(hcl:cs.length=sz)(hO:cOs s cs ds ns)(hnd:ns.Nodup)(hnn:yn∉ns)(hlt:∀k∈ns,k < 1000000):
  ∃m',zE cx m' ((s.er ns).blk yn (.data sz [ds] true none)) a w:=by
 have hN:=R.hp yn
 rw[hk] at hN
 cases hf:m.inf yn with
 |none=>rw[hf] at hN;exact hN.elim
 |some f=>
 rw[hf] at hN
 unfold zY at hN
 cases hb:f.blk with
 |none=>
  simp only[hb] at hN
  obtain⟨_,_,_,_,e0,_⟩:=hN
  cases e0
 |some b=>
 simp only[hb] at hN
 obtain⟨g1,g2,cells,T,g4,g5,g6,g7⟩:=hN
 obtain⟨BX,hr0,hnx,hBX⟩:=xm R hnd g7 hO
 obtain⟨R1,E1⟩:=R.give (n:=yn) hlt hBX
 have hnc:ns.contains yn=false:=by
  rw[Bool.eq_false_iff];intro h;rw[List.contains_iff_mem] at h;exact hnn h
 have hnX:∀c,m.own c=some yn→c∉BX:=fun c hc hx=>by
  obtain⟨_,j',hj',_,_,_,e'⟩:=hBX c hx
  rw[hc] at e'
  cases e'
  exact hnn hj'
 have own1:∀c,m.own c=some yn→(m.give ns BX yn).own c=some yn:=fun c hc=>by
  show(if c∈BX then some yn else m.own c)=some yn
  rw[if_neg (hnX c hc)];exact hc
 have JD:∀c∈BX,(m.give ns BX yn).own c=some yn:=fun c hc=>by
  show(if c∈BX then some yn else m.own c)=some yn
  rw[if_pos hc]
 have hdl:ds.length=sz:=by rw[←hr0.length,g7.length,hcl]
 have hk1:(s.er ns).hp yn=some ((Blk.vars sz cs).er ns):=by
  show(if ns.contains yn then none else(s.hp yn).map (Blk.er ns))=_
  rw[hnc,hk];rfl
 refine⟨m.give ns BX yn,R1.swapB hk1 fun f' hf' _=> ?_⟩
 have hff:f'=f:=by
  have:(if ns.contains yn then none else m.inf yn)=some f':=hf'
  rw[hnc,hf] at this
  cases this;rfl
 subst hff
 unfold zY
 simp only[hb]
 refine⟨g1,own1 b g2,cells,T,g4,g5,g6,(fun _ h=>by cases h),BX,?_,fun _=>⟨hnx,fun c hc=>⟨JD c hc,fun e=> ?_⟩⟩,fun h=>by cases h⟩
 ·simp only[RdLL]
  refine⟨BX,[],by simp,hdl,?_,by trivial⟩
  rw[List.take_of_length_le (by rw[←hdl,hr0.length];exact Nat.le_refl _)]
  exact hr0
 ·have:=hb.symm.trans e
  cases this
  exact hnX _ g2 hc
theorem zf9(n:Nat){α:Type}{f:α→List D}{t:α}{sz:Nat}{cs:List C}{ds:List D}{ns:List Nat}{l l' gl gl':List (Nat×V)}{h h':List (Nat×Blk)}(hb:LB h n (.vars sz cs))(hO:VOs h cs ds ns)(hok:Ks n ns=true)(hds:ds=f t)(hcl:cs.length=sz)(h1:erL ns l l')(h2:erH ns h h')(h3:erL ns gl gl'):
  Wk (mk l' ((n,.data sz (List.map f [t]) true none)::h') (lk gl')) (mk l h (lk gl)):=fun cx a w ⟨m,R⟩=>by
 subst hds
 unfold Ks at hok
 simp only[Bool.and_eq_true,decide_eq_true_eq,Bool.not_eq_true',List.all_eq_true] at hok
 obtain⟨m',R'⟩:=R.absF (yn:=n) hb hcl hO.cOs hok.1.1 (fun hm=>by have:=hok.1.2;rw[List.contains_iff_mem.2 hm] at this;cases this) (fun k hk=>by have:=hok.2 k hk;rwa [Nat.blt_eq] at this)
 rw[zaE h1 h2 h3] at R'
 exact⟨m',R'⟩
end Go.AW
