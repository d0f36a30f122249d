/- Texts turned into bytes, bytes into texts, and bits turned: what the operations of the model do. Lemmas. Conditions: none. -/
import Derived.Test.YtpabbbmfcgnhdaaGreatLb
import Derived.Lib.ConvBytes
import Derived.Laws.BytesString
set_option linter.unusedVariables false
namespace Go.AW
variable {cx:Cx} {m:M} {s:St} {a:Act} {w:World} {o:Oper} {K:Act→World→Prop} {Q:Exit→Act→World→Prop}
theorem zn5(R:zt cx m s a w){d:Nat}{t:TypeId}{x:Operand}{x':Opd}(ho:o.op= .unOp .xor t x)(hd:o.dst=some d)(hn:d < cx.n)(hx:zJ x=some x'){out:Out}
  (he:ev s (.cpl d x')=some out) (hK:∀m' a' w',zt cx m' (s.app out) a' w'→K a' w'):o.wp cx.P a w K Q:=by
 simp only[ev] at he;split at he;rotate_left
 ·cases he
 rename_i k z hp;simp only[Option.some.injEq] at he;subst he;have h1:=R.opd hx;rw[hp] at h1;have h1:=ZB h1;refine qC R hd hn (yS _ _) ?_ hK;simp only[execOp,ho,h1,Op.unary,Op.intBits,zhP];rfl
theorem zdp{h:Hp}:∀(ns:List Int) (rest:List Value),RdLL false h 1 (ns.map fun n=>[D.int .u8 n]) (ns.map (Value.int .u8)++rest) []
 |[],_=>by simp[RdLL]
 |n::ns,rest=>by
  simp only[List.map_cons,List.cons_append,RdLL];refine⟨[],[],rfl,rfl,?_,?_⟩
  ·exact⟨_,[],[],[],rfl,rfl,rfl,⟨rfl,rfl⟩,rfl,rfl⟩
  ·exact zdp ns rest
theorem znc(R:zt cx m s a w){d:Nat}{src dst e:TypeId}{x:Operand}{x':Opd}(ho:o.op= .convert src dst x)(hs:cx.P.underlying src=some .string)(ht:cx.P.underlying dst=some (.slice e))(hu:cx.P.underlying e=some (.int .u8))(hd:o.dst=some d)(hn:d < cx.n)(hx:zJ x=some x'){out:Out}
  (he:ev s (.s2b d x')=some out) (hK:∀m' a' w',zt cx m' (s.app out) a' w'→K a' w'):o.wp cx.P a w K Q:=by
 simp only[ev] at he;split at he;rotate_left
 ·cases he
 rename_i b hp;simp only[Option.some.injEq] at he;subst he;have h1:=R.opd hx;rw[hp] at h1;have h1:=Ki h1;have hrun:(execOp a.eval o).run cx.P w= .ok (.value<|.slice (some ⟨w.heap.size,0,none⟩) b.size<|grownCap w b.size 0 e) (Lib.bytesWorld w e b):=by
  simp only[execOp,ho,h1,Sem.run_bind,Lib.run_convert_string_bytes w src dst e b hs ht hu,Result.andThen_ok];rfl
 have hkept:∀c,c < w.heap.size→(Lib.bytesWorld w e b).heap[c]? =w.heap[c]?:=fun c hc=>Lib.bytesWorld_at_old w e b c hc;have E1:Ext [] m w.heap m (Lib.bytesWorld w e b).heap:=⟨fun _ _ _ h=>h,fun b x y z hb ho=>⟨ho,hkept b<|zH hb⟩,fun b x y z j g hb _ _ ho _=>⟨ho,hkept b<|zH hb⟩⟩;have hsz:(Lib.bytesWorld w e b).heap.size=w.heap.size+1:=Lib.bytesWorld_size w e b;have R1:zt cx m s a (Lib.bytesWorld w e b):=by
  refine⟨R.size,R.defers,fun t=>E1.ver0 (R.sl t),fun j=>zT.ext E1 (fun b hb x hx=>⟨hb,hkept b<|zH hx⟩) O (R.hp j),⟨fun b j hb=> ?_,R.own.2⟩,?_,fun t=>E1.ver0 (R.gh t)⟩
  ·have:=R.own.1 b j hb;omega
  ·have F:=R.fr;exact⟨F.os,F.tape,F.output,by have:=F.size;omega,fun b hb hW=>by rw[hkept b (by have:=F.size;omega)];exact F.kept b hb hW⟩
 have hnone:m.own w.heap.size=none:=by
  cases ho:m.own w.heap.size with
  |none=>rfl
  |some n=>have:=R.own.1 _ n ho;omega
 refine js hrun ?_;rw[hd];refine hK m _ _ (R1.set hn ⟨rfl,[w.heap.size],?_,fun c hc=>by simp only[List.mem_singleton] at hc;subst hc;exact hnone⟩);have hlen:b.data.size=b.size:=rfl;have hc:(Lib.bytesCells w e b).toList=(Zn b).map (Value.int .u8)++List.replicate (grownCap w b.size 0 e - b.size) (.int .u8 0):=by
  simp[Lib.bytesCells,Zn]
 have hlb:(Zn b).length=b.size:=by simp[Zn,hlen]
 have hge:=grownCap_ge w b.size 0 e;simp only[Rd];refine⟨some ⟨w.heap.size,0,none⟩,grownCap w b.size 0 e,?_,.inr ⟨w.heap.size,0,_,e,_,[],rfl,Lib.bytesWorld_at_new w e b,rfl,?_,?_,(fun h=>by cases h),?_⟩⟩
 ·rw[List.length_map,hlb]
 ·rw[List.length_map,hlb];omega
 ·simp only[Lib.bytesCells,Array.size_append,Array.size_map,Array.size_replicate,hlen];omega
 ·rw[List.drop_zero,hc];exact zdp _ _
theorem zeY{α β:Type}{f:α→Option β}:∀{xs:List α} {ys:List β},xs.mapM f=some ys→ys.length=xs.length
 |[],ys,h=>by simp only[List.mapM_nil] at h;cases h;rfl
 |x::xs,ys,h=>by
  simp only[List.mapM_cons,Option.bind_eq_bind,obi] at h;obtain⟨n,hn,ms,hms,hr⟩:=h;cases hr;simp[zeY hms]
theorem ze0{h:Hp}:∀{xs:List (List D)} {ns:List Int} {vs:List Value} {bs:List Nat},RdLL false h 1 xs vs bs→xs.mapM zgp=some ns→vs.take xs.length=ns.map (Value.int .u8)
 |[],ns,vs,bs,_,hm=>by
  simp only[List.mapM_nil] at hm;cases hm;simp
 |e::es,ns,vs,bs,H,hm=>by
  simp only[List.mapM_cons,Option.bind_eq_bind,obi] at hm;obtain⟨n,hn,ms,hms,hr⟩:=hm;cases hr;have he:e=[.int .u8 n]:=by
   unfold zgp at hn;split at hn
   ·cases hn;rfl
   ·cases hn
  subst he;simp only[RdLL] at H;obtain⟨b1,b2,rfl,_,h1,h2⟩:=H;simp only[RdL] at h1;obtain⟨v,vs',c1,c2,hv,_,_,h3,h4⟩:=h1;simp only[Rd] at h3;have ih:=ze0 h2 hms;cases vs with
  |nil=>simp at hv
  |cons u us=>
   simp only[List.take_succ_cons,List.take_zero,List.cons.injEq] at hv;simp only[List.length_cons,List.take_succ_cons,List.map_cons,List.cons.injEq];exact⟨by rw[hv.1,h3.1],by simpa using ih⟩
theorem zk7(R:zt cx m s a w){d:Nat}{src dst e:TypeId}{x:Operand}{x':Opd}(ho:o.op= .convert src dst x)(hs:cx.P.underlying src=some (.slice e))(ht:cx.P.underlying dst=some .string)(hu:cx.P.underlying e=some (.int .u8))(hd:o.dst=some d)(hn:d < cx.n)(hx:zJ x=some x'){out:Out}
  (he:ev s (.b2s d x')=some out) (hK:∀m' a' w',zt cx m' (s.app out) a' w'→K a' w'):o.wp cx.P a w K Q:=by
 simp only[ev] at he;split at he;rotate_left
 ·cases he
 rename_i xs hp;simp only[omi] at he;obtain⟨ns,hns,rfl⟩:=he;have h1:=R.opd hx;rw[hp] at h1;obtain⟨ad,cap,hv,h1⟩:=Ky h1;have hlen:ns.length=xs.length:=zeY hns;have hval:(convert src dst<|.slice ad xs.length cap).run cx.P w= .ok (.string<|KT ns) w:=by
  rw[run_convert_bytes_string w src dst e ad _ _ hs hu ht];rcases h1 with rfl|⟨b,off,cells,T,fz,bs,rfl,hh,hc1,hc2,hr,_⟩
  ·simp only[List.mapM_nil] at hns;cases hns;cases ad with
   |none=>simp[Conv.bytesToString,KT,Sem.run_pure]
   |some ad=>exact run_bytesToString w ad 0 cap [] (by simp[loadCells,loadCellsFrom,Sem.run_pure])
  ·refine run_bytesToString w ⟨b,off,none⟩ xs.length cap ns ?_;have hl:=ze0 hr hns;have:=QJ (P:=cx.P) (w:=w) (off:=off) (n:=xs.length) hh (by rw[hl,List.length_map,hlen]);rw[this,hl]
 have h2:qK m w.heap (.one<|.d<|.str<|KT ns) (.string<|KT ns):=⟨rfl,[],by simp[Rd],by simp⟩;refine qC R hd hn h2 ?_ hK;simp only[execOp,ho,Sem.run_bind,hv,hval,Result.andThen_ok];rfl
end Go.AW
