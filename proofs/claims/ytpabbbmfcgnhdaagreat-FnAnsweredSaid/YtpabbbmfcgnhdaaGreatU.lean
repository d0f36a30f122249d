/- Operations that run in whatever order: what an operation reads, and what it leaves. Lemmas. Conditions: none. -/
import Derived.Test.YtpabbbmfcgnhdaaGreatT
set_option linter.unusedVariables false
namespace Go.AW
def IOp.opds:IOp→List Opd
 | .mov _ x=>[x]
 | .pick _ c a b=>[c,a,b]
 | .var _ _=>[]
 | .box _ x=>[x]
 | .build _ _ ps=>ps.map (·.2.2)
 | .bslice _ _ _ ps=>ps.map (·.2.2)
 | .load _ _ x=>[x]
 | .store _ _ x v=>[x,v]
 | .bin _ _ x y=>[x,y]
 | .beq _ _ x y=>[x,y]
 | .inv _ x=>[x]
 | .conv _ _ x=>[x]
 | .cpl _ x=>[x]
 | .s2b _ x=>[x]
 | .b2s _ x=>[x]
 | .mkfn _ _ caps=>caps
 | .mksl _ _ _ _ l c=>[l,c]
 | .slice _ _ x lo hi mx=>x::hi.getD (.t 0)::lo.getD (.c<|.one<|.d<|.int .i64 0)::mx.toList
 | .faddr _ _ x=>[x]
 | .field _ _ _ x=>[x]
 | .iaddr _ _ x i=>[x,i]
 | .ext _ x _=>[x]
 | .len _ _ x=>[x]
 | .app _ _ _ _ x y=>[x,y]
 | .isnil _ _ x=>[x]
 | .seql _ _ _ x y=>[x,y]
 | .nilchk _ x=>[x]
 | .sidx _ x i=>[x,i]
 | .dead _=>[]
 | .mm _ _ x y=>[x,y]
 | .clear _ _ x=>[x]
 | .cap _ x=>[x]
 | .copy _ _ x y=>[x,y]
 | .apm _ _ _ _ x y=>[x,y]
 | .callv _ f args=>f::args
def IOp.calm:IOp→Bool
 | .mov .. | .pick .. | .build .. | .bin .. | .beq .. | .inv .. | .conv .. | .mkfn .. | .faddr .. | .field .. | .ext .. | .nilchk .. | .sidx .. | .dead _| .isnil .. | .seql .. | .cpl .. | .s2b .. | .b2s .. | .mm .. | .len ..=>true
 |_=>false
def IOp.isApp:IOp→Bool
 | .app ..=>true
 |_=>false
def IOp.loud:IOp→Bool
 | .app .. | .store .. | .clear .. | .copy ..=>true
 |_=>false
def IOp.allocs:IOp→Bool
 | .var .. | .box .. | .bslice .. | .mksl .. | .callv .. | .app .. | .apm ..=>true
 |_=>false
def jX:Opd→List Nat
 | .t n=>[n]
 | .c _=>[]
def GOp.reads(g:GOp):List Nat:=(match g.g with|some (t,_)=>[t]|none=>[])++g.o.opds.flatMap jX
theorem zhY{s s':St}{ps:List (Nat×Nat×Opd)}(h:∀x∈ps.map (·.2.2),s'.ev x=s.ev x):
  (ps.map fun p=>(p.1,p.2.1,s'.ev p.2.2))=(ps.map fun p=>(p.1,p.2.1,s.ev p.2.2)):=
 List.map_congr_left fun p hp=>by rw[h p.2.2 (List.mem_map.2 ⟨p,hp,rfl⟩)]
theorem zdP{α β:Type}{f g:α→Option β}:∀{as:List α},(∀a∈as,f a=g a)→as.mapM f=as.mapM g
 |[],_=>rfl
 |a::as,h=>by
  simp only[List.mapM_cons];rw[h a (by simp),zdP (fun b hb=>h b (by simp[hb]))]
theorem zgW{s s':St}{o:IOp}(h:∀x∈o.opds,s'.ev x=s.ev x)(hh:s'.hp=s.hp∨o.calm=true):AW.ev s' o=AW.ev s o:=by
 cases o with
 |mov d x=>simp only[AW.ev,h x (by simp[IOp.opds])]
 |pick d c x y=>simp only[AW.ev,h c (by simp[IOp.opds]),h x (by simp[IOp.opds]),h y (by simp[IOp.opds])]
 |var k zs=>
  have hh:=hh.resolve_right (by simp[IOp.calm]);simp only[AW.ev,hh]
 |box k x=>
  have hh:=hh.resolve_right (by simp[IOp.calm]);simp only[AW.ev,hh,h x (by simp[IOp.opds])]
 |build d zs ps=>simp only[AW.ev,zhY h]
 |bslice k sz zs ps=>
  have hh:=hh.resolve_right (by simp[IOp.calm]);simp only[AW.ev,hh,zhY h]
 |load k ag x=>
  have hh:=hh.resolve_right (by simp[IOp.calm]);have hr:∀n v,s'.rd n v=s.rd n v:=fun n v=>by unfold St.rd;rw[hh]
  simp only[AW.ev,hr,h x (by simp[IOp.opds])]
 |store n zs x v=>
  have hh:=hh.resolve_right (by simp[IOp.calm]);have hr:∀n v,s'.wr zs n v=s.wr zs n v:=fun n v=>by unfold St.wr;rw[hh]
  simp only[AW.ev,hr,h x (by simp[IOp.opds]),h v (by simp[IOp.opds])]
 |bin d op x y=>simp only[AW.ev,h x (by simp[IOp.opds]),h y (by simp[IOp.opds])]
 |beq d neg x y=>simp only[AW.ev,h x (by simp[IOp.opds]),h y (by simp[IOp.opds])]
 |inv d x=>simp only[AW.ev,h x (by simp[IOp.opds])]
 |conv d k x=>simp only[AW.ev,h x (by simp[IOp.opds])]
 |cpl d x=>simp only[AW.ev,h x (by simp[IOp.opds])]
 |s2b d x=>simp only[AW.ev,h x (by simp[IOp.opds])]
 |b2s d x=>simp only[AW.ev,h x (by simp[IOp.opds])]
 |mkfn d f caps=>
  simp only[AW.ev];rw[zdP (fun x hx=>by rw[h x hx])]
 |mksl k sz bytes zs l c=>
  have hh:=hh.resolve_right (by simp[IOp.calm]);simp only[AW.ev,hh,h l (by simp[IOp.opds]),h c (by simp[IOp.opds])]
 |slice k sz x lo hi mx=>
  have hh:=hh.resolve_right (by simp[IOp.calm]);have hx:=h x (by simp[IOp.opds]);have hb:∀n,s'.blkSz n=s.blkSz n:=fun n=>by unfold St.blkSz;rw[hh]
  have hro:∀n,s'.room n=s.room n:=fun n=>by unfold St.room;rw[hh]
  have hhi:=h (hi.getD<|.t 0) (by simp[IOp.opds]);have hlo:=h (lo.getD<|.c<|.one<|.d<|.int .i64 0) (by simp[IOp.opds]);have hmx:∀m∈mx.toList,s'.ev m=s.ev m:=fun m hm=>h m (by
   simp only[IOp.opds,List.mem_cons];exact .inr (.inr<|.inr hm))
  have o1:∀n,optNat s' n hi=optNat s n hi:=fun n=>by
   cases hi with
   |none=>rfl
   |some y=>simp only[optNat];rw[show s'.ev y=s.ev y from hhi]
  have o2:∀n,optNat s' n lo=optNat s n lo:=fun n=>by
   cases lo with
   |none=>rfl
   |some y=>simp only[optNat];rw[show s'.ev y=s.ev y from hlo]
  simp only[AW.ev,hx];congr 1;unfold St.cut;cases mx with
  |none=>
   simp only[o1,o2,hb,hro];generalize s.ev x=v;cases v with
   |one c=>cases c with
    |d y=>cases y<;>rfl
    |_=>rfl
   |_=>rfl
  |some m=>
   have hm:=hmx m (by simp);have hz:m.zero s' (hi.getD<|.t 0) (lo.getD<|.c<|.one<|.d<|.int .i64 0)=m.zero s (hi.getD<|.t 0) (lo.getD<|.c<|.one<|.d<|.int .i64 0):=by
    unfold Opd.zero;rw[hm,hhi,hlo]
   generalize s.ev x=v;cases v with
   |one c=>cases c with
    |d y=>cases y<;>first|exact hz|rfl
    |sl n off len=>simp only[hz,hm,o1,o2]
    |_=>first|exact hz|rfl
   |_=>rfl
 |faddr d off x=>simp only[AW.ev,h x (by simp[IOp.opds])]
 |field d off ag x=>simp only[AW.ev,h x (by simp[IOp.opds])]
 |iaddr k sz x i=>
  have hh:=hh.resolve_right (by simp[IOp.calm]);have hb:∀n,s'.blkSz n=s.blkSz n:=fun n=>by unfold St.blkSz;rw[hh]
  have ha:∀u v,s'.at sz u v=s.at sz u v:=fun u v=>by unfold St.at;simp only[hb]
  simp only[AW.ev,ha,h x (by simp[IOp.opds]),h i (by simp[IOp.opds])]
 |ext d x i=>simp only[AW.ev,h x (by simp[IOp.opds])]
 |len k st x=>
  have hl:∀v,s'.lenOf st v=s.lenOf st v:=fun v=>rfl;simp only[AW.ev,hl,h x (by simp[IOp.opds])]
 |app k sz bytes zs x y=>
  have hh:=hh.resolve_right (by simp[IOp.calm]);have he:∀own v,s'.elems sz zs own v=s.elems sz zs own v:=fun own v=>by unfold St.elems;rw[hh]
  simp only[AW.ev,he,hh,h x (by simp[IOp.opds]),h y (by simp[IOp.opds])]
 |nilchk d x=>simp only[AW.ev,h x (by simp[IOp.opds])]
 |sidx d x i=>simp only[AW.ev,h x (by simp[IOp.opds]),h i (by simp[IOp.opds])]
 |dead d=>rfl
 |isnil d neg x=>simp only[AW.ev,h x (by simp[IOp.opds])]
 |seql d neg n x y=>simp only[AW.ev,h x (by simp[IOp.opds]),h y (by simp[IOp.opds])]
 |mm d mx x y=>simp only[AW.ev,h x (by simp[IOp.opds]),h y (by simp[IOp.opds])]
 |clear sz zs x=>
  have hh:=hh.resolve_right (by simp[IOp.calm]);simp only[AW.ev,hh,h x (by simp[IOp.opds])]
 |cap k x=>
  have hh:=hh.resolve_right (by simp[IOp.calm]);simp only[AW.ev,hh,h x (by simp[IOp.opds])]
 |copy k sz x y=>
  have hh:=hh.resolve_right (by simp[IOp.calm]);have he:∀own v,s'.elems sz [] own v=s.elems sz [] own v:=fun own v=>by unfold St.elems;rw[hh]
  simp only[AW.ev,he,hh,h x (by simp[IOp.opds]),h y (by simp[IOp.opds])]
 |apm k sz bytes zs x y=>
  have hh:=hh.resolve_right (by simp[IOp.calm]);simp only[AW.ev,hh,h x (by simp[IOp.opds]),h y (by simp[IOp.opds])]
 |callv d f args=>rfl
structure qO(o:IOp)(out:Out):Prop where
 sl:out.sl.map (·.1)=o.dst
 er:o.isApp=false→out.er=[]
 hp:o.loud=false→∀n∈out.hp.map (·.1),∃d,o.dst=some d∧n / 64=d
 hp0:o.allocs=false→o.loud=false→out.hp=[]
theorem qO.skip(o:IOp):qO o (xb o) where
 sl:=by unfold xb;cases o.dst<;>rfl
 er _:=rfl
 hp _:=by simp[xb]
 hp0 _ _:=rfl
theorem qm{o:IOp}{d:Nat}{v:V}(hd:o.dst=some d):qO o ⟨[],some (d,v),[]⟩ where
 sl:=by simp[hd]
 er _:=rfl
 hp _:=by simp
 hp0 _ _:=rfl
theorem xL{o:IOp}{d:Nat}{v:V}{b:Blk}(hd:o.dst=some d)(ha:o.allocs=true):qO o ⟨[],some (d,v),[(d * 64,b)]⟩ where
 sl:=by simp[hd]
 er _:=rfl
 hp _:=by simp[hd]
 hp0 h:=by rw[h] at ha;cases ha
theorem zjv{s:St}{o:IOp}{out:Out}(h:AW.ev s o=some out):qO o out:=by
 cases o with
 |store n zs x v=>
  simp only[AW.ev,obi] at h;obtain⟨cs,hcs,h⟩:=h;split at h
  ·simp only[omi] at h;obtain⟨p,hp,rfl⟩:=h;exact⟨rfl,(fun _=>rfl),(fun h=>by cases h),(fun _ h=>by cases h)⟩
  ·cases h
 |app k sz bytes zs x y=>
  simp only[AW.ev] at h;split at h
  ·split at h
   ·simp only[obi] at h;obtain⟨ys,hys,h⟩:=h;split at h
    ·cases h;exact xL O rfl
    ·cases h
   ·cases h
  ·split at h
   ·simp only[obi] at h;obtain⟨ys,hys,h⟩:=h;split at h
    ·cases h;exact⟨rfl,(fun h=>by cases h),(fun h=>by cases h),(fun h=>by cases h)⟩
    ·split at h
     ·cases h;exact⟨rfl,(fun h=>by cases h),(fun h=>by cases h),(fun h=>by cases h)⟩
     ·cases h
   ·cases h
  ·cases h
 |clear sz zs x=>
  simp only[AW.ev] at h;split at h
  ·split at h
   ·split at h
    ·cases h;exact⟨rfl,(fun _=>rfl),(fun h=>by cases h),(fun _ h=>by cases h)⟩
    ·cases h
   ·cases h
  ·cases h
 |cap k x=>
  simp only[AW.ev] at h;split at h
  ·split at h
   ·cases h;exact qm rfl
   ·cases h
  ·cases h
 |copy k sz x y=>
  simp only[AW.ev] at h;split at h
  ·split at h
   ·simp only[obi] at h;obtain⟨ys,hys,h⟩:=h;split at h
    ·cases h;exact⟨rfl,(fun _=>rfl),(fun h=>by cases h),(fun _ h=>by cases h)⟩
    ·cases h
   ·cases h
  ·cases h
 |apm k sz bytes zs x y=>
  simp only[AW.ev] at h;split at h
  ·split at h
   ·simp only[obi] at h;obtain⟨q,hq,h⟩:=h;split at h
    ·cases h;exact xL O rfl
    ·cases h
   ·cases h
  ·cases h
 |callv d f args=>cases h
 |bslice k sz zs ps=>
  simp only[AW.ev] at h;split at h
  ·simp only[omi] at h;obtain⟨cs,hcs,h⟩:=h;split at h
   ·cases h;exact qm rfl
   ·cases h;exact xL O rfl
  ·cases h
 |var k zs=>
  simp only[AW.ev] at h;split at h
  ·cases h;exact xL O rfl
  ·cases h
 |box k x=>
  simp only[AW.ev] at h;split at h
  ·simp only[omi] at h;obtain⟨cs,hcs,h⟩:=h;cases h;exact xL O rfl
  ·cases h
 |mksl k sz bytes zs l c=>
  simp only[AW.ev] at h;split at h
  ·simp only[obi] at h;obtain⟨n,hn,c',hc,h⟩:=h;split at h
   ·cases h;exact xL O rfl
   ·cases h
  ·cases h
 |load k ag x=>
  cases ag with
  |some n=>
   simp only[AW.ev,omi] at h;obtain⟨_,_,rfl⟩:=h;exact qm rfl
  |none=>
   simp only[AW.ev,obi,omi] at h;obtain⟨_,_,_,_,rfl⟩:=h;exact qm rfl
 |mov d x=>simp only[AW.ev] at h;cases h;exact qm rfl
 |build d zs ps=>simp only[AW.ev,omi] at h;obtain⟨_,_,rfl⟩:=h;exact qm rfl
 |bin d op x y=>simp only[AW.ev,omi] at h;obtain⟨_,_,rfl⟩:=h;exact qm rfl
 |mkfn d f caps=>simp only[AW.ev,omi] at h;obtain⟨_,_,rfl⟩:=h;exact qm rfl
 |slice k sz x lo hi mx=>simp only[AW.ev,omi] at h;obtain⟨_,_,rfl⟩:=h;exact qm rfl
 |iaddr k sz x i=>simp only[AW.ev,omi] at h;obtain⟨_,_,rfl⟩:=h;exact qm rfl
 |len k st x=>simp only[AW.ev,omi] at h;obtain⟨_,_,rfl⟩:=h;exact qm rfl
 |field d off ag x=>
  simp only[AW.ev] at h;split at h
  ·split at h
   ·split at h
    ·cases h;exact qm rfl
    ·cases h
   ·simp only[omi] at h;obtain⟨_,_,rfl⟩:=h;exact qm rfl
  ·cases h
 |ext d x i=>
  simp only[AW.ev] at h;split at h
  ·simp only[omi] at h;obtain⟨_,_,rfl⟩:=h;exact qm rfl
  ·cases h
 |faddr d off x=>simp only[AW.ev] at h;split at h<;>(try split at h)<;>first|(cases h;done)|(cases h;exact qm O)
 |pick d c x y=>simp only[AW.ev] at h;split at h<;>first|(cases h;done)|(cases h;exact qm O)
 |beq d neg x y=>simp only[AW.ev] at h;split at h<;>first|(cases h;done)|(cases h;exact qm O)
 |inv d x=>simp only[AW.ev] at h;split at h<;>first|(cases h;done)|(cases h;exact qm O)
 |conv d k x=>simp only[AW.ev] at h;split at h<;>first|(cases h;done)|(cases h;exact qm O)
 |cpl d x=>simp only[AW.ev] at h;split at h<;>first|(cases h;done)|(cases h;exact qm O)
 |s2b d x=>simp only[AW.ev] at h;split at h<;>first|(cases h;done)|(cases h;exact qm O)
 |b2s d x=>
  simp only[AW.ev] at h;split at h
  ·simp only[omi] at h;obtain⟨_,_,h⟩:=h;cases h;exact qm rfl
  ·cases h
 |nilchk d x=>simp only[AW.ev] at h;split at h<;>first|(cases h;done)|(cases h;exact qm O)
 |sidx d x i=>
  simp only[AW.ev] at h;split at h
  ·simp only[omi] at h;obtain⟨_,_,h⟩:=h;cases h;exact qm rfl
  ·cases h
 |dead d=>cases h
 |isnil d neg x=>simp only[AW.ev] at h;split at h<;>first|(cases h;done)|(cases h;exact qm O)
 |seql d neg n x y=>
  simp only[AW.ev] at h;split at h
  ·split at h
   ·rw[omi] at h;obtain⟨b,_,rfl⟩:=h;exact qm rfl
   ·cases h
  ·cases h
 |mm d mx x y=>simp only[AW.ev] at h;split at h<;>first|(cases h;done)|(cases h;exact qm O)
theorem ziM{P:Program}{s:St}{d:Nat}{f:V}{vs:List V}{K:Out→Prop}(h:callB P s d f vs K):
  ∃out,callB P s d f vs (·=out)∧K out∧out.sl.map (·.1)=some d∧out.er=[]∧∀n∈out.hp.map (·.1),n / 64=d:=by
 rcases h with h|⟨k,B,u,hc,hB,hv,hk⟩;rotate_left
 ·exact⟨_,.inr ⟨k,B,u,hc,hB,hv,rfl⟩,hk,rfl,rfl,by simp⟩
 unfold callB0 at h;rw[qB] at h;obtain⟨c,hc,h⟩:=h;rw[qB] at h;obtain⟨ds,hds,o,md,rs,hf,h⟩:=h;cases md with
 |false=>
  simp only[Bool.false_eq_true,if_false] at h;refine⟨_,.inl ?_,h.2,rfl,rfl,by simp⟩;unfold callB0;rw[qB];refine⟨c,hc,?_⟩;rw[qB];exact⟨ds,hds,o,false,rs,hf,by simp only[Bool.false_eq_true,if_false];exact⟨h.1,trivial⟩⟩
 |true=>
  simp only[if_true] at h;obtain⟨h1,h2,h3,h4⟩:=h;refine⟨_,.inl ?_,h4,rfl,rfl,fun n hn=> ?_⟩
  ·unfold callB0;rw[qB];refine⟨c,hc,?_⟩;rw[qB];exact⟨ds,hds,o,true,rs,hf,by simp only[if_true];exact⟨h1,h2,h3,trivial⟩⟩
  ·have:=List.all_eq_true.1 h2 n (List.mem_cons_of_mem _ hn);simpa using this
theorem zis{P:Program}{s:St}{o:IOp}{K:Out→Prop}(h:opA P s o K):∃out,opA P s o (·=out)∧K out∧qO o out:=by
 unfold opA at h;split at h
 ·obtain⟨out,h1,h2,h3,h4,h5⟩:=ziM h;exact⟨out,h1,h2,h3,(fun _=>h4),(fun _ n hn=>⟨_,rfl,h5 n hn⟩),(fun h=>by cases h)⟩
 ·rename_i hne;rw[qB] at h;obtain⟨out,he,hk⟩:=h;refine⟨out,?_,hk,zjv he⟩;unfold opA;split
  ·exact absurd O (hne _ _ _)
  ·rw[he];rfl
theorem zaV{P:Program}{s:St}{g:GOp}{K:Out→Prop}(h:je P s g K):∃out,je P s g (·=out)∧K out∧qO g.o out:=by
 unfold je at h;split at h
 ·rename_i hg;obtain⟨out,h1,h2,h3⟩:=zis h;exact⟨out,by unfold je;rw[hg];exact h1,h2,h3⟩
 ·rename_i t want hg;split at h
  ·rename_i b hb;split at h
   ·rename_i hw;obtain⟨out,h1,h2,h3⟩:=zis h;exact⟨out,by unfold je;rw[hg];simp only[hb,if_pos hw];exact h1,h2,h3⟩
   ·rename_i hw;exact⟨_,by unfold je;rw[hg];simp only[hb,if_neg hw],h,qO.skip _⟩
  ·rename_i hb;exact⟨_,by unfold je;rw[hg];simp only[hb],h,qO.skip _⟩
  ·cases h
structure zcL(g:GOp)(s s':St):Prop where
 sl:∀t∈g.reads,s'.sl t=s.sl t
 hp:g.o.calm=false→(∀n b,s.hp n=some b→s'.hp n=some b)∧∀d,g.o.dst=some d→∀n,n / 64=d→s.hp n=none→s'.hp n=none
theorem zcL.opds{g:GOp}{s s':St}(T:zcL g s s'):∀x∈g.o.opds,s'.ev x=s.ev x:=fun x hx=>by
 cases x with
 |c v=>rfl
 |t n=>exact T.sl n (by unfold GOp.reads;exact List.mem_append_right _ (List.mem_flatMap.2 ⟨.t n,hx,by simp[jX]⟩))
theorem XW{s s':St}(h:s'.hp=s.hp):∀(ns:List Nat),qp s' ns=qp s ns
 |[]=>rfl
 |n::ns=>by simp only[qp,h,XW h ns]
theorem zii{s s':St}(h:s'.hp=s.hp):vD s'=vD s:=by
 obtain⟨sl,hp,gh⟩:=s;obtain⟨sl',hp',gh'⟩:=s';cases h;rfl
theorem zkr{P:Program}{s s':St}(h:s'.hp=s.hp){d:Nat}{f:V}{vs:List V}{K:Out→Prop}(H:callB P s d f vs K):callB P s' d f vs K:=by
 unfold callB callB0 at H ⊢;simp only[zii h,XW h,h];exact H
theorem zcL.op{P:Program}{g:GOp}{s s':St}(T:zcL g s s'){K:Out→Prop}(h:opA P s g.o K):opA P s' g.o K:=by
 have hop:=T.opds;have hhp:=T.hp;generalize g.o=o at *;cases hc:o.calm with
 |true=>
  unfold opA at h ⊢;split at h
  ·cases hc
  ·rw[zgW hop (.inr hc)];exact h
 |false=>
  have hhp:=hhp hc
  let s1:St:=⟨s'.sl,s.hp,s.gh⟩
  have h1:opA P s1 o K:=by
   unfold opA at h ⊢;split at h
   ·rename_i d f args _;have hf:s1.ev f=s.ev f:=hop f (by simp[IOp.opds]);have ha:args.map s1.ev=args.map s.ev:=List.map_congr_left fun x hx=>hop x (by simp[IOp.opds,hx]);simp only[hf,ha];exact zkr (s:=s) (s':=s1) O h
   ·rw[zgW (s':=s1) (s:=s) hop (.inl O)];exact h
  by_cases hcv:∃d f args,o= .callv d f args
  ·obtain⟨d,f,args,rfl⟩:=hcv;have H:Sub d s1 s':=⟨rfl,hhp.1,hhp.2 d rfl⟩;have h2:callB P s1 d (s1.ev f) (args.map s1.ev) K:=h1;have h3:=H.callB h2;have hev:s1.ev=s'.ev:=(funext H.ev).symm;rw[hev] at h3;exact h3
  ·unfold opA at h1 ⊢;split at h1
   ·exact absurd ⟨_,_,_,rfl⟩ hcv
   rename_i hne;rw[qB] at h1 ⊢;obtain⟨out,he,hk⟩:=h1;refine⟨out,?_,hk⟩;cases hd:o.dst with
   |some d=>exact Sub.op (s:=s1) (s':=s') (d:=d) ⟨rfl,hhp.1,hhp.2 d hd⟩ (fun k hk=>by rw[hd] at hk;cases hk;rfl) he
   |none=>
    cases o with
    |store n zs x v=>
     have hev:s'.ev=s1.ev:=funext fun x=>by cases x<;>rfl
     simp only[AW.ev,obi] at he ⊢;obtain⟨cs,hcs,he⟩:=he;refine⟨cs,by rw[hev];exact hcs,?_⟩;split at he
     ·rename_i hc;rw[if_pos hc];simp only[omi] at he ⊢;obtain⟨p,hp,he⟩:=he;refine⟨p,?_,he⟩;rw[hev];unfold St.wr at hp ⊢;split at hp
      ·rename_i k i j hx;cases hk:s1.hp k with
       |none=>rw[hk] at hp;cases hp
       |some b=>rw[hk] at hp;simp only[hhp.1 _ _ hk];exact hp
      ·cases hp
     ·cases he
    |clear sz zs x=>
     have hev:s'.ev=s1.ev:=funext fun x=>by cases x<;>rfl
     simp only[AW.ev] at he ⊢;rw[hev];split at he
     ·rename_i n off len hx;cases hk:s1.hp n with
      |none=>rw[hk] at he;cases he
      |some b=>rw[hk] at he;simp only[hhp.1 _ _ hk];exact he
     ·cases he
    |dead d=>cases he
    |_=>cases hd
theorem zcL.step{P:Program}{g:GOp}{s s':St}(T:zcL g s s'){K:Out→Prop}(h:je P s g K):je P s' g K:=by
 unfold je at h ⊢;split at h
 ·rename_i hg;exact T.op h
 ·rename_i t want hg;rw[T.sl t (by simp[GOp.reads,hg])];split at h
  ·rename_i b hb;split at h
   ·rename_i hw;simp only[if_pos hw];exact T.op h
   ·rename_i hw;simp only[if_neg hw];exact h
  ·exact h
  ·cases h
end Go.AW
