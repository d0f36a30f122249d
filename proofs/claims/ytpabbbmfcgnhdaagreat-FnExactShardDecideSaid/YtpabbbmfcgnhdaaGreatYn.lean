/- slices.Delete of elements that hold slices: out of its contract for elements whose slices are held fast. Lemmas. Conditions: none. -/
import Derived.Test.YtpabbbmfcgnhdaaGreatYp
set_option linter.unusedVariables false
set_option linter.unusedSimpArgs false
namespace Go.AW
section
variable {P:Program} {l:List (Nat×V)} {h:List (Nat×Blk)} {g:Nat→V} {Q:St→Prop}
theorem zmJ{α:Type}{f:α→List D}{sz n r len:Nat}{zs:List D}{own o:Bool}{cp:Option Nat}{xs ys:List α}(hb:LB h n (.data sz (xs.map f) o cp))(hl:r+len≤xs.length)(hf:((xs.map f).all fun e=>e.all D.flat)=true)(he:(xs.drop r).take len=ys):El h sz zs own (.one<|.sl n r len) (ys.map f):=by
 subst he
 have hb:(mk [] h fun _=> .top).hp n=some (.data sz (xs.map f) o cp):=hb
 unfold El St.elems
 simp only[hb,List.length_map]
 rw[if_pos ⟨trivial,hl,hf⟩]
 simp[List.map_drop,List.map_take]
end
abbrev zm8(sz:Nat):List RO:=[
 ⟨⟨none,.mov 20<|.t 0⟩,0,[]⟩,
 ⟨⟨none,.mov 21<|.t 1⟩,0,[]⟩,
 ⟨⟨none,.slice 22 sz (.t 20) none (some<|.t 21) none⟩,3,[]⟩,
 ⟨⟨none,.mov 23<|.t 0⟩,0,[]⟩,
 ⟨⟨none,.mov 24<|.t 2⟩,0,[]⟩,
 ⟨⟨none,.slice 25 sz (.t 23) (some<|.t 24) none none⟩,24,[]⟩]
abbrev zm5(sz bytes:Nat)(zs:List D):List RO:=[
 ⟨⟨none,.app 26 sz bytes zs (.t 22)<|.t 25⟩,0,[]⟩,
 ⟨⟨none,.mov 0<|.t 26⟩,0,[]⟩]
abbrev zIx(sz bytes:Nat)(zs:List D):IC:=(.seq (.reg<|ziC sz bytes zs)
 (.seq (.reg<|ziR sz bytes zs)
 (.seq (.seq (.reg<|zh8 sz bytes zs)
 (.cond (.t 16) (.seq (.reg<|zi5 sz bytes zs)
 .ret) .skip))
 (.seq (.reg<|ziO sz bytes zs)
 (.seq (.regt (zm8 sz)<|zm5 sz bytes zs)
 (.seq (.reg<|zia sz bytes zs)
 (.seq (.reg<|ziK sz bytes zs)
 .ret)))))))
theorem ztW{P:Program}{α:Type}{f:α→List D}{zv:α}{xs:List α}{i j sz bytes:Nat}{zs:List D}(hfl:((xs.map f).all fun e=>e.all D.flat)=true)(hz:zs=f zv)(hzl:zs.length=sz)(hij:i < j)(hj:j≤xs.length)(hb:xs.length≤2147483648):
  AW P 33 (zIx sz bytes zs) (zfB [⟨.sl sz<|xs.map f,.g⟩,⟨.int .i64 (i:Int),.b⟩,⟨.int .i64 (j:Int),.b⟩] [.tmp 6] [.sl sz ((xs.take i++xs.drop j).map f)]) (mk [(0,.one<|.sl 0 0 xs.length),(1,.one<|.d<|.int .i64 (i:Int)),(2,.one<|.d<|.int .i64 (j:Int))] [(0,.data sz (xs.map f) true none)]<|lk []):=by
 refine zeo (t:=0) (n:=0) (xs:=xs.map f) (by rw[List.length_map];exact eZ) bZ (fun c hc=> ?_)
 rw[List.length_map] at hc
 refine AW.seq ?_
 refine jM ?_
 refine za eC ?_
 refine zl ?_
 refine TQ.qn ?_
 refine AW.seq ?_
 refine jM ?_
 refine za (eS rfl eZ) ?_
 refine za (eS rfl<|eS rfl<|eS rfl eZ) ?_
 refine za (eS rfl<|eS rfl<|eS rfl<|eS rfl<|eS rfl eZ) ?_
 refine za (eS rfl<|eS rfl<|eS rfl<|eS rfl eZ) ?_
 refine kT eZ ?_
 refine zoQ (eS rfl<|eS rfl<|eS rfl<|eS rfl eZ) (eS rfl<|eS rfl<|eS rfl eZ) (eS rfl<|eS rfl eZ) eZ (by omega) ⟨by omega,by omega,by omega⟩ ?_
 refine zl ?_
 refine TQ.qn ?_
 refine AW.seq ?_
 refine AW.seq ?_
 refine jM ?_
 refine za (eS rfl<|eS rfl<|eS rfl<|eS rfl<|eS rfl<|eS rfl<|eS rfl<|eS rfl eZ) ?_
 refine za (eS rfl<|eS rfl<|eS rfl<|eS rfl<|eS rfl<|eS rfl<|eS rfl<|eS rfl<|eS rfl<|eS rfl eZ) ?_
 refine kZ (eS rfl eZ) eZ ?_
 refine zl ?_
 refine TQ.qn ?_
 refine zh eZ (decide_eq_false (by omega)) ?_
 refine AW.skip ?_
 refine TQ.qn ?_
 refine AW.seq ?_
 refine jM ?_
 refine za (eS rfl<|eS rfl<|eS rfl<|eS rfl<|eS rfl<|eS rfl<|eS rfl<|eS rfl<|eS rfl<|eS rfl eZ) ?_
 refine kT eZ ?_
 refine za eZ ?_
 refine zl ?_
 refine TQ.qn ?_
 refine AW.seq ?_
 refine AW.regt ?_
 refine za (eS rfl<|eS rfl<|eS rfl<|eS rfl<|eS rfl<|eS rfl<|eS rfl<|eS rfl<|eS rfl<|eS rfl<|eS rfl<|eS rfl<|eS rfl eZ) ?_
 refine za (eS rfl<|eS rfl<|eS rfl<|eS rfl<|eS rfl<|eS rfl<|eS rfl<|eS rfl<|eS rfl<|eS rfl<|eS rfl<|eS rfl<|eS rfl<|eS rfl<|eS rfl eZ) ?_
 refine XO (r:=0) (s:=i) (eS rfl eZ) bZ rfl Xb (Bd.at eZ) rfl rfl ⟨by decide,by omega,by omega⟩ ?_
 refine za (eS rfl<|eS rfl<|eS rfl<|eS rfl<|eS rfl<|eS rfl<|eS rfl<|eS rfl<|eS rfl<|eS rfl<|eS rfl<|eS rfl<|eS rfl<|eS rfl<|eS rfl<|eS rfl eZ) ?_
 refine za (eS rfl<|eS rfl<|eS rfl<|eS rfl<|eS rfl<|eS rfl<|eS rfl<|eS rfl<|eS rfl<|eS rfl<|eS rfl<|eS rfl<|eS rfl<|eS rfl<|eS rfl<|eS rfl<|eS rfl<|eS rfl<|eS rfl eZ) ?_
 refine XO (r:=j) (s:=xs.length - j) (eS rfl eZ) bZ rfl (Bd.at eZ) Xb rfl rfl ⟨by omega,by omega,by omega⟩ ?_
 refine zl ?_
 refine qf ?_
 refine zl1 (f:=f) (ys:=xs.drop j) (q:=i+(xs.length - j)) (ws:=xs.take i++xs.drop j++xs.drop (i+(xs.length - j))) (eS rfl<|eS rfl<|eS rfl eZ) eZ bZ (zmJ (ys:=xs.drop j) bZ (by omega) hfl (by rw[List.take_of_length_le (by simp<;>omega)])) (by omega) (by simp<;>omega) hc (by simp<;>omega) rfl ?_
 refine za eZ ?_
 refine zl ?_
 refine TQ.qn ?_
 refine AW.seq ?_
 refine jM ?_
 refine za eZ ?_
 refine za (eS rfl eZ) ?_
 refine kT eZ ?_
 refine za (eS rfl<|eS rfl<|eS rfl<|eS rfl<|eS rfl<|eS rfl<|eS rfl<|eS rfl<|eS rfl<|eS rfl<|eS rfl eZ) ?_
 refine zma (r:=i+(xs.length - j)) (s:=xs.length - (i+(xs.length - j))) (eS rfl<|eS rfl<|eS rfl eZ) bZ (Bd.at<|eS rfl eZ) (Bd.at eZ) rfl rfl ⟨by omega,by omega,by omega⟩ ?_
 refine zhw (zv:=zv) eZ bZ hz hzl (by simp<;>omega) ?_
 refine zl ?_
 refine TQ.qn ?_
 refine AW.weaken (zeX 0 (i+(xs.length - j)) bZ) ?_
 refine AW.seq ?_
 refine jM ?_
 refine za (eS rfl<|eS rfl<|eS rfl<|eS rfl<|eS rfl eZ) ?_
 refine za eZ ?_
 refine zl ?_
 refine TQ.qn ?_
 refine AW.ret ?_
 rw[zoN hij hj]
 exact QJ (RL.cons (RV.tmp eZ) (VO.sl bZ (by simp<;>omega) (by
  rw[List.all_map,List.all_eq_true] at hfl ⊢
  intro x hx
  refine hfl x ?_
  rw[List.mem_append] at hx
  exact hx.elim List.mem_of_mem_take List.mem_of_mem_drop)) RL.nil) (ML.give<|ML.lent<|ML.lent ML.nil) (by decide)
def D.plainC:D→Bool
 | .sl _ _=>true
 |d=>d.flat
theorem zJV{h:Hp}{d:D}{u:Value}{b1:List Nat}(hd:d.plainC=true)(H:Rd true h d u b1):∃d',d'.flat=true∧d'.isCell=true∧Rd true h d' u []∧∀(h':Hp) (u':Value),Rd true h' d' u' []→(∀c∈b1,h'[c]? =h[c]?)→Rd true h' d u' b1:=by
 by_cases hf:d.flat=true
 ·have e:=zc5 hf H
  subst e
  refine⟨d,hf,(by cases d<;>first|rfl|(cases hf;done)),H,fun h' u' K _=> ?_⟩
  exact K
 ·cases d with
  |sl sz xs=>
   have hs:∃a n c,u= .slice a n c:=by
    simp only[Rd] at H
    obtain⟨a,c,e,_⟩:=H
    exact⟨a,_,c,e⟩
   refine⟨.pin u,rfl,rfl,by simp only[Rd];exact⟨⟨trivial,hs⟩,trivial⟩,fun h' u' K hc=> ?_⟩
   simp only[Rd] at K
   obtain⟨⟨rfl,_⟩,_⟩:=K
   exact Rd.congr _ _ _ hc H
  |_=>exact absurd hd hf
theorem zDQ{h:Hp}:∀{ds:List D} {vs:List Value} {bs:List Nat},(ds.all D.plainC)=true→RdL true h ds vs bs→∃ds',(ds'.all D.flat)=true∧ds'.length=ds.length∧RdL true h ds' vs []∧∀(h':Hp) (vs':List Value),RdL true h' ds' vs' []→(∀c∈bs,h'[c]? =h[c]?)→RdL true h' ds vs' bs
 |[],vs,bs,_,H=>⟨[],rfl,rfl,by simp only[RdL] at H ⊢;exact⟨H.1,trivial⟩,fun h' vs' K _=>by simp only[RdL] at H K ⊢;exact⟨K.1,H.2⟩⟩
 |d::ds,vs,bs,hp,H=>by
  simp only[RdL] at H
  obtain⟨v,vs',b1,b2,rfl,rfl,hc,h1,h2⟩:=H
  simp only[List.all_cons,Bool.and_eq_true] at hp
  obtain⟨d',f1,c1,r1,k1⟩:=zJV hp.1 h1
  obtain⟨ds',f2,l2,r2,k2⟩:=zDQ hp.2 h2
  refine⟨d'::ds',by simp only[List.all_cons,Bool.and_eq_true];exact⟨f1,f2⟩,by simp[l2],by simp only[RdL];exact⟨v,vs',[],[],rfl,rfl,c1,r1,r2⟩,fun h' us K hh=> ?_⟩
  simp only[RdL] at K ⊢
  obtain⟨u,us',c1',c2',rfl,e,_,q1,q2⟩:=K
  have e':=List.append_eq_nil_iff.1 e.symm
  obtain⟨rfl,rfl⟩:=e'
  exact⟨u,us',b1,b2,rfl,rfl,hc,k1 h' u q1 (fun c hc=>hh c (by simp[hc])),k2 h' us' q2 (fun c hc=>hh c (by simp[hc]))⟩
def zuk(h:Hp)(e e':List D)(bs:List Nat):Prop:=(e'.all D.flat)=true∧e'.length=e.length∧∀(h':Hp) (vs':List Value),RdL true h' e' vs' []→(∀c∈bs,h'[c]? =h[c]?)→RdL true h' e vs' bs
def jL(h:Hp):List (List D)→List (List D)→List (List Nat)→Prop
 |[],[],[]=>True
 |e::es,e'::es',b::bs=>zuk h e e' b∧jL h es es' bs
 |_,_,_=>False
theorem jL.len{h:Hp}:∀{es es':List (List D)} {bs:List (List Nat)},jL h es es' bs→es'.length=es.length∧bs.length=es.length
 |[],[],[],_=>⟨rfl,rfl⟩
 |_::_,_::_,_::_,H=>by have:=jL.len H.2;simp[this]
 |[],_::_,_,H=>H.elim
 |[],[],_::_,H=>H.elim
 |_::_,[],_,H=>H.elim
 |_::_,_::_,[],H=>H.elim
theorem jL.flat{h:Hp}:∀{es es':List (List D)} {bs:List (List Nat)},jL h es es' bs→(es'.all fun e=>e.all D.flat)=true
 |[],[],[],_=>rfl
 |_::_,_::_,_::_,H=>by simp only[List.all_cons,Bool.and_eq_true];exact⟨H.1.1,jL.flat H.2⟩
 |[],_::_,_,H=>H.elim
 |[],[],_::_,H=>H.elim
 |_::_,[],_,H=>H.elim
 |_::_,_::_,[],H=>H.elim
theorem jL.take{h:Hp}:∀(n:Nat) {es es':List (List D)} {bs:List (List Nat)},jL h es es' bs→jL h (es.take n) (es'.take n) (bs.take n)
 |0,_,_,_,_=>by simp[jL]
 |n+1,[],[],[],_=>by simp[jL]
 |n+1,_::_,_::_,_::_,H=>⟨H.1,jL.take n H.2⟩
 |_+1,[],_::_,_,H=>H.elim
 |_+1,[],[],_::_,H=>H.elim
 |_+1,_::_,[],_,H=>H.elim
 |_+1,_::_,_::_,[],H=>H.elim
theorem jL.drop{h:Hp}:∀(n:Nat) {es es':List (List D)} {bs:List (List Nat)},jL h es es' bs→jL h (es.drop n) (es'.drop n) (bs.drop n)
 |0,_,_,_,H=>by simpa using H
 |n+1,[],[],[],_=>by simp[jL]
 |n+1,_::_,_::_,_::_,H=>jL.drop n H.2
 |_+1,[],_::_,_,H=>H.elim
 |_+1,[],[],_::_,H=>H.elim
 |_+1,_::_,[],_,H=>H.elim
 |_+1,_::_,_::_,[],H=>H.elim
theorem jL.append{h:Hp}:∀{es es' fs fs':List (List D)} {bs cs:List (List Nat)},jL h es es' bs→jL h fs fs' cs→jL h (es++fs) (es'++fs') (bs++cs)
 |[],[],_,_,[],_,_,K=>K
 |_::_,_::_,_,_,_::_,_,H,K=>⟨H.1,jL.append H.2 K⟩
 |[],_::_,_,_,_,_,H,_=>H.elim
 |[],[],_,_,_::_,_,H,_=>H.elim
 |_::_,[],_,_,_,_,H,_=>H.elim
 |_::_,_::_,_,_,[],_,H,_=>H.elim
theorem jL.read{h h':Hp}{sz:Nat}:∀{es es':List (List D)} {bs:List (List Nat)} {vs:List Value},jL h es es' bs→RdLL true h' sz es' vs []→(∀c∈bs.flatten,h'[c]? =h[c]?)→RdLL true h' sz es vs bs.flatten
 |[],[],[],_,_,_,_=>by simp[RdLL]
 |e::es,e'::es',b::bs,vs,H,K,hh=>by
  simp only[RdLL] at K ⊢
  obtain⟨b1,b2,e0,hl,k1,k2⟩:=K
  obtain⟨rfl,rfl⟩:=List.append_eq_nil_iff.1 e0.symm
  rw[List.flatten_cons] at hh ⊢
  exact⟨b,bs.flatten,rfl,by rw[←hl];exact H.1.2.1.symm,H.1.2.2 h' _ k1 (fun c hc=>hh c (by simp[hc])),jL.read H.2 k2 (fun c hc=>hh c (List.mem_append_right _ hc))⟩
 |[],_::_,_,_,H,_,_=>H.elim
 |[],[],_::_,_,H,_,_=>H.elim
 |_::_,[],_,_,H,_,_=>H.elim
 |_::_,_::_,[],_,H,_,_=>H.elim
theorem zoW{h:Hp}{sz:Nat}:∀{es:List (List D)} {vs:List Value} {bs:List Nat},(es.all fun e=>e.all D.plainC)=true→RdLL true h sz es vs bs→∃es' B,jL h es es' B∧B.flatten=bs∧RdLL true h sz es' vs []
 |[],vs,bs,_,H=>⟨[],[],trivial,by simp only[RdLL] at H;simp[H],by simp[RdLL]⟩
 |e::es,vs,bs,hp,H=>by
  simp only[RdLL] at H
  obtain⟨b1,b2,rfl,hl,h1,h2⟩:=H
  simp only[List.all_cons,Bool.and_eq_true] at hp
  obtain⟨e',f1,l1,r1,k1⟩:=zDQ hp.1 h1
  obtain⟨es',B,s2,e2,r2⟩:=zoW hp.2 h2
  refine⟨e'::es',b1::B,⟨⟨f1,l1,k1⟩,s2⟩,by rw[List.flatten_cons,e2],?_⟩
  simp only[RdLL]
  exact⟨[],[],rfl,by rw[l1,hl],r1,r2⟩
theorem zh0{xs ys:List (List Nat)}(H:xs.Sublist ys):xs.flatten.Sublist ys.flatten:=by
 induction H with
 |slnil=>exact List.Sublist.refl _
 |cons a _ ih=>rw[List.flatten_cons];exact ih.trans (List.sublist_append_right _ _)
 |cons_cons a _ ih=>rw[List.flatten_cons,List.flatten_cons];exact List.Sublist.append (List.Sublist.refl _) ih
theorem zhX{bs:List (List Nat)}{i j:Nat}(hij:i≤j):(bs.take i++bs.drop j).flatten.Sublist bs.flatten:=by
 have:(bs.take i++bs.drop j).Sublist bs:=by
  have h1:(bs.drop j).Sublist (bs.drop i):=by
   have:bs.drop j=(bs.drop i).drop (j - i):=by rw[List.drop_drop];congr 1;omega
   rw[this];exact List.drop_sublist _ _
  have:=List.Sublist.append (List.Sublist.refl<|bs.take i) h1
  rwa [List.take_append_drop] at this
 exact zh0 this
theorem zly{P:Program}{f:FuncId}{sz i j:Nat}{X:List (List D)}(hij:i≤j)(hX:(X.all fun e=>e.all D.plainC)=true)
  (H:∀Y:List (List D),Y.length=X.length→(Y.all fun e=>e.all D.flat)=true→Fn P f [⟨.sl sz Y,.g⟩,⟨.int .i64 (i:Int),.b⟩,⟨.int .i64 (j:Int),.b⟩] true [.sl sz (Y.take i++Y.drop j)]):
  Fn P f [⟨.sl sz X,.g⟩,⟨.int .i64 (i:Int),.b⟩,⟨.int .i64 (j:Int),.b⟩] true [.sl sz (X.take i++X.drop j)]:=by
 refine⟨(H (List.replicate X.length []) (by simp) (by simp[List.all_eq_true])).1,fun w vs bss HA hnd hap=> ?_⟩
 have hsh:∃v0 v1 v2 b0 b1 b2,vs=[v0,v1,v2]∧bss=[b0,b1,b2]:=by
  obtain⟨hl1,hl2⟩:=HA.length
  rcases vs with _|⟨v0,_|⟨v1,_|⟨v2,_|⟨v3,vs⟩⟩⟩⟩<;>simp at hl1
  rcases bss with _|⟨b0,_|⟨b1,_|⟨b2,_|⟨b3,bss⟩⟩⟩⟩<;>simp at hl2
  exact⟨v0,v1,v2,b0,b1,b2,rfl,rfl⟩
 obtain⟨v0,v1,v2,b0,b1,b2,rfl,rfl⟩:=hsh
 obtain⟨hr0,hr1,hr2,_⟩:=HA
 have hq:Rd true w.heap (.sl sz X) v0 b0:=hr0
 simp only[Rd] at hq
 obtain⟨ad,cap,rfl,hq⟩:=hq
 have key:∃(Y:List (List D)) (B:List (List Nat)) (b0':List Nat),jL w.heap X Y B∧Rd true w.heap (.sl sz Y) (.slice ad X.length cap) b0'∧(∀c∈b0',c∈b0)∧(∀c∈B.flatten,c∈b0∧c∉b0')∧B.flatten.Nodup∧b0'.Nodup∧∀c∈b0,c∈b0'∨c∈B.flatten:=by
  have hnd0:b0.Nodup:=by
   simp only[jF,Md.owned,if_true,Bool.false_eq_true,if_false,List.append_nil] at hnd
   exact hnd
  rcases hq with⟨e0,rfl,hc⟩|⟨b,off,cells,T,fz,bs',rfl,hh,rfl,hl,hfit,ho,hr⟩
  ·subst e0
   refine⟨[],[],[],trivial,?_,by simp,by simp,by simp,by simp,by simp⟩
   simp only[Rd]
   exact⟨ad,cap,rfl,.inl ⟨by trivial,by trivial,hc⟩⟩
  ·obtain⟨Y,B,s1,rfl,r1⟩:=zoW hX hr
   obtain⟨n1,n2⟩:=List.nodup_cons.1 hnd0
   refine⟨Y,B,[b],s1,?_,by simp,fun c hc=>⟨by simp only[List.mem_cons];exact .inr hc,fun h=> ?_⟩,n2,by simp,fun c hc=> ?_⟩
   ·simp only[Rd]
    have hlY:=s1.len.1
    exact⟨some ⟨b,off,none⟩,cap,by rw[hlY],.inr ⟨b,off,cells,T,fz,[],rfl,hh,rfl,by rw[hlY];exact hl,hfit,ho,r1⟩⟩
   ·simp only[List.mem_singleton] at h
    subst h
    exact n1 hc
   ·rcases List.mem_cons.1 hc with rfl|hc
    ·exact .inl (by simp)
    ·exact .inr hc
 obtain⟨Y,B,b0',hs,hrY,hsub,hB,hBn,hn0,hcov⟩:=key
 have hlt:∀c∈b0,c < w.heap.size:=fun c hc=>by
  have hr:Rd true w.heap (.sl sz X) (.slice ad X.length cap) b0:=by simp only[Rd];exact⟨ad,cap,rfl,hq⟩
  obtain⟨x,y,z,e⟩:=Rd.there _ _ _ hr c hc
  exact zQ e
 have hA':zax w.heap [⟨.sl sz Y,.g⟩,⟨.int .i64 (i:Int),.b⟩,⟨.int .i64 (j:Int),.b⟩] [.slice ad X.length cap,v1,v2] [b0',b1,b2]:=⟨hrY,hr1,hr2,trivial⟩
 have hb1:b1=[]:=yp (h:=w.heap) (o:=false) (x:= .int .i64 (i:Int)) rfl hr1
 have hb2:b2=[]:=yp (h:=w.heap) (o:=false) (x:= .int .i64 (j:Int)) rfl hr2
 subst hb1;subst hb2
 refine Calls.mono ((H Y hs.len.1 hs.flat).2 w _ _ hA' (by simpa[jF,Md.owned] using hn0) (by simp[jF,Z3,Md.owned])) fun e w' ⟨v,br,bm,he,hp⟩=> ?_
 have hown':jF [⟨.sl sz Y,.g⟩,⟨.int .i64 (i:Int),.b⟩,⟨.int .i64 (j:Int),.b⟩] [b0',[],[]]=b0':=by simp[jF,Md.owned]
 have hown:jF [⟨.sl sz X,.g⟩,⟨.int .i64 (i:Int),.b⟩,⟨.int .i64 (j:Int),.b⟩] [b0,[],[]]=b0:=by simp[jF,Md.owned]
 have hkB:∀c∈B.flatten,w'.heap[c]? =w.heap[c]?:=fun c hc=>hp.kept c (hlt c (hB c hc).1) (by rw[hown'];exact(hB c hc).2)
 have hsel:∀c∈(B.take i++B.drop j).flatten,c∈B.flatten:=fun c hc=>(zhX hij).subset hc
 obtain⟨br0,hbr,hres⟩:=hp.res
 subst hbr
 have hstep:∃br1,Rd true w'.heap (.sl sz (X.take i++X.drop j)) v br1∧br1.Nodup∧∀c∈br1,c∈br0∨c∈B.flatten:=by
  have hss:=(hs.take i).append (hs.drop j)
  have hnr:=hp.nodupR rfl
  simp only[List.flatten_cons,List.flatten_nil,List.append_nil] at hnr
  simp only[Rd] at hres
  obtain⟨ad',cap',rfl,hres⟩:=hres
  have hlen:(X.take i++X.drop j).length=(Y.take i++Y.drop j).length:=hss.len.1.symm
  rcases hres with⟨e0,rfl,hc⟩|⟨b,off,cells,T,fz,bs',rfl,hh,rfl,hl,hfit,ho,hr⟩
  ·have e1:X.take i++X.drop j=[]:=List.eq_nil_of_length_eq_zero (by rw[hlen,e0];rfl)
   refine⟨[],?_,by simp,by simp⟩
   simp only[Rd]
   exact⟨ad',cap',by rw[hlen],.inl ⟨e1,trivial,hc⟩⟩
  ·have hbs:=zcb hss.flat hr
   subst hbs
   refine⟨b::(B.take i++B.drop j).flatten,?_,?_,fun c hc=> ?_⟩
   ·simp only[Rd]
    refine⟨some ⟨b,off,none⟩,cap',by rw[hlen],.inr ⟨b,off,cells,T,fz,_,rfl,hh,rfl,by rw[hlen];exact hl,hfit,ho,?_⟩⟩
    exact hss.read hr (fun c hc=>hkB c (hsel c hc))
   ·refine List.nodup_cons.2 ⟨fun hm=> ?_,hBn.sublist<|zhX hij⟩
    have hbB:=hB b (hsel b hm)
    have:=hp.rfrom b (by simp)
    rw[hown'] at this
    rcases this with h|h|h
    ·have:=hlt b hbB.1;omega
    ·exact hbB.2 h
    ·exact absurd h.1 (by simp)
   ·rcases List.mem_cons.1 hc with rfl|hc
    ·exact .inl (by simp)
    ·exact .inr (hsel c hc)
 obtain⟨br1,q1,q2,q3⟩:=hstep
 have hmf:bm.flatten=[]:=by
  have:=hp.muts
  match bm,this with
  |[x,y,z],this=>
   obtain⟨t1,t2,t3,_⟩:=this
   have t1:x=[]:=t1
   have t2:y=[]:=t2
   have t3:z=[]:=t3
   simp[t1,t2,t3]
 refine⟨v,[br1],[[],[],[]],he,hp.os,hp.tape,hp.output,hp.size,fun c hc hn=> ?_,⟨br1,rfl,q1⟩,⟨rfl,rfl,rfl,trivial⟩,by simp,fun _=>by simpa using q2,by simp,by simp,fun c hc=> ?_⟩
 ·rw[hown] at hn
  exact hp.kept c hc (by rw[hown'];exact fun h=>hn (hsub c h))
 ·simp only[List.flatten_cons,List.flatten_nil,List.append_nil] at hc
  rw[hown]
  rcases q3 c hc with h|h
  ·have:=hp.rfrom c (by simpa using h)
   rw[hown'] at this
   rcases this with h|h|h
   ·exact .inl h
   ·exact .inr (.inl<|hsub c h)
   ·exact absurd h.1 (by simp)
  ·exact .inr (.inl (hB c h).1)
end Go.AW
