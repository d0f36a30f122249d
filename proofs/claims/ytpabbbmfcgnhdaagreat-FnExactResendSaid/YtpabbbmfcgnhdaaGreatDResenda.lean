/- That functions of the program compute what the plain functions say. Conditions: each theorem's own. -/
import Derived.Test.YtpabbbmfcgnhdaaGreatMResend
import Derived.Test.YtpabbbmfcgnhdaaGreatGResend
import Derived.Test.YtpabbbmfcgnhdaaGreatYp
import Derived.Test.YtpabbbmfcgnhdaaGreatYr
import Derived.Test.YtpabbbmfcgnhdaaGreatYo
import Derived.Test.YtpabbbmfcgnhdaaGreatYm
import Derived.Test.YtpabbbmfcgnhdaaGreatYq
set_option linter.unusedVariables false
set_option linter.unusedSimpArgs false
set_option maxRecDepth 100000
namespace Go.AW
open Go.Proofs
theorem aa{β:Type}{b:Bool}{x y:Option β}{r:β}(H:(if b=true then x else y)=some r):(b=true∧x=some r)∨(b=false∧y=some r):=(zy H).imp id fun h=>⟨nt h.1,h.2⟩
theorem ab{β:Type}{c:Prop}[Decidable c]{x y:Option β}{r:β}(H:(if c then x else y)=some r):(decide c=true∧x=some r)∨(decide c=false∧y=some r):=(zy H).imp (fun h=>⟨dT h.1,h.2⟩) fun h=>⟨dF h.1,h.2⟩
theorem ac{P:Program}{n:Nat}{ic:IC}{ts:List Qw}{f:FuncId}{ds rs:List D}(F:FI P n ic ts f)(e:Nat.ble ds.length n=true)(h:AW P n ic (zhY ts rs) (mk (zaL 0 ds) []<|xk ds)):Fn P f (lent ds) true rs:=F (fle e) (zF ds▸h)
theorem af{n off a b:Nat}(e:a=b:=by first|(simp;done)|(simp;omega)|omega|(simp only[List.length_map];omega)):CWk (.sl n off a) (.sl n off b):=CWk.len e
abbrev ah{α:Type}(n:Nat)(x:List α):C:=.sl n 0 x.length
abbrev ai(x:Int):Int:=IntKind.wrap .i64 (x+1)
theorem aj{ns:List Nat}{k:Nat}{v:V}(v':V){r r':List (Nat×V)}(A:v.er ns=v')(B:erL ns r r'):erL ns ((k,v)::r) ((k,v')::r'):=erL.cons A B
theorem ak{ns:List Nat}{k:Nat}{v:Blk}(v':Blk){r r':List (Nat×Blk)}(A:ns.contains k=false)(B:v.er ns=v')(C:erH ns r r'):erH ns ((k,v)::r) ((k,v')::r'):=erH.cons A B C
abbrev A:=@dI
abbrev B:=@eZ
abbrev E:=@VOs.cons
abbrev G:=@AW.weaken
abbrev I:=@BK.nil
abbrev J:=@AW.ret
abbrev K:=@VO.flat
abbrev L:=@TQ.qn
abbrev N:=@za
abbrev Q:=@SL.nil
abbrev R:=@AW.skip
abbrev S:=@BK.cons
abbrev T:=@TQ.qr
abbrev U:=@CDs.plain
abbrev W:=@BL.nil
abbrev X:=@eC
abbrev Y:=@gDo
abbrev Z:=@zb
abbrev d:=@xQ
abbrev g:=@Cl.fn
abbrev i:=@aj
abbrev j:=@aV
abbrev l:=@CWk.rfl
abbrev m:=@erL.nil
abbrev o:=@bZ
abbrev p:=@AW.block
abbrev q:=@blR
abbrev s:=@zd
abbrev t:=@GK.nil
abbrev u:=@BQ.qr
abbrev am:=@VD.agg
abbrev ao:=@RdI.rfl
abbrev ap:=@TQ.qe
abbrev aq:=@erH.nil
abbrev ar:=@GK.cons
abbrev au:=@VO.sl
abbrev av:=@RL.cons
abbrev aw:=@AW.iter
abbrev ax:=@AW.exit
abbrev ay:=@RL.nil
abbrev az:=@BQ.qn
abbrev aA:=@erH.drop
abbrev aB:=@SL.cons
abbrev aC:=@VWk.one
abbrev aD:=@VOs.nil
abbrev aE:=@BQ.qe
abbrev aF:=@AW.regd
abbrev aG:=@CDs.sl
abbrev aH:=@RV.tmp
abbrev aI:=@CWk.len
abbrev aJ:=@ZW.k
abbrev aK:=@VO.aggs
abbrev aL:=@Wk.trans
abbrev aM:=@AO.lent
abbrev aN:=@CDs.nil
abbrev aO:=@SZ.cons
abbrev aP:=@RdI.zs
abbrev aQ:=@GR.nil
abbrev aT:=@CDs.zs
abbrev aU:=@Jt.cons
abbrev aW:=@SZ.nil
abbrev aX:=@AO.nil
abbrev aY:=@AO.mut
abbrev aZ:=@ML.lent
abbrev ba:=@VO.zs
abbrev bc:=@ML.nil
abbrev bf:=@ML.mut
abbrev bg:=@VD.aggs
abbrev bh:=@Fn.args
abbrev bi:=@CWk.ptr
abbrev bj:=@AW.regt
abbrev bl:=@VO.agg
abbrev bn:=@Jt.nil
abbrev bo:=@El.lent
abbrev bp:=@RdI.agg
abbrev bq:=@PDs.nil
abbrev bt:=@PDs.cons
theorem zbS{A:List zT}{C:Int}{r:Int}(H:QR A C=some r):Fn Tryz.prog 74 (lent [.sl 2 (A.map ze),.int .i64 C]) true [.int .i64 r]:=by
 refine ac f74 O (G (zk [] (kv 0 (.one<|.d<|.sl 2<|A.map ze) O O<|kv 1 (oI C) O O Q) W I)<|j<|N X<|d<|j<|N O<|N O<|qc B (n:=A.length) lm<|Xo O B<|N B<|d<|aS<|j<|N B<|jM B X<|d ?_);obtain⟨D,H⟩|⟨D,H⟩:=ab H
 ·refine zj B D (j<|N X<|d<|J<|T ?_);cases H;exact eE O O
 refine zi B D (R<|L<|j<|N O<|N B<|d<|J ?_);cases H;exact eE O O
theorem zbQ{A:List zS}{C:Int}{r:Int}(H:QW A C=some r):Fn Tryz.prog 269 (lent [.sl 3 (A.map zg),.int .i64 C]) true [.int .i64 r]:=by
 refine ac zz4 O (G (zk [] (kv 0 (.one<|.d<|.sl 3<|A.map zg) O O<|kv 1 (oI C) O O Q) W I)<|j<|N X<|d<|j<|N O<|N O<|qc B (n:=A.length) lm<|Xo O B<|N B<|d<|aS<|j<|N B<|jM B X<|d ?_);obtain⟨D,H⟩|⟨D,H⟩:=ab H
 ·refine zj B D (j<|N X<|d<|J<|T ?_);cases H;exact eE O O
 refine zi B D (R<|L<|j<|N O<|N B<|d<|J ?_);cases H;exact eE O O
theorem zbZ{A:zK}{C:Int}{r:Int}(H:QD A C=some r):Fn Tryz.prog 164 (lent [.agg (jK A),.int .i64 C]) true [.int .i64 r]:=by
 refine ac zzY O (G (zk [] (kv 0 (.agg<|qf A) O O<|kv 1 (oI C) O O Q) W I)<|j<|qS (n:=128) (m:=2) (cs:=qf A) O B O O nZ<|N X<|d<|j<|s (m:=0) O O<|zh (q:=0) (c:=.d (.sl 2<|A.Cells.map ze)) B o O O<|N O ?_);obtain⟨F,K,H⟩:=zn H;refine zI (u:=oI F) X g (zbS K) (Ec O<|Ec B En) (Vc Vp<|Vc Vp Vn) O (N B<|d<|aS<|j<|N B<|jM B X<|d ?_);obtain⟨D,H⟩|⟨D,H⟩:=ab H
 ·refine zj B D (j<|N X<|d<|J<|T ?_);cases H;exact eE O O
 refine zi B D (R<|L<|j<|s (m:=1) O O<|zh (q:=1) (c:=.d (.sl 3<|A.Seats.map zg)) B o O O<|N O ?_);obtain⟨M,P,H⟩:=zn H;refine zI (u:=oI M) X g (zbQ P) (Ec O<|Ec B En) (Vc Vp<|Vc Vp Vn) O (N B<|d<|G (zk [128] (kr 1 O O Q) (q O) I)<|aS<|j<|N B<|jM B X<|d ?_);obtain⟨E,H⟩|⟨E,H⟩:=ab H
 ·refine zj B E (j<|N X<|d<|J<|T ?_);cases H;exact eE O O
 refine zi B E (R<|L<|j<|N O<|N B<|d<|J ?_);cases H;exact eE O O
theorem zbt{A:List zA}{C:Int}{r:Int}(H:ZR A C=some r):Fn Tryz.prog 165 (lent [.sl 5 (A.map zf),.int .i64 C]) true [.int .i64 r]:=by
 refine ac zzB O (G (zk [] (kv 0 (.one<|.d<|.sl 5<|A.map zf) O O<|kv 1 (oI C) O O Q) W I)<|j<|N X<|d<|j<|N O<|N O<|qc B (n:=A.length) lm<|Xo O B<|N B<|d<|aS<|j<|N B<|jM B X<|d ?_);obtain⟨D,H⟩|⟨D,H⟩:=ab H
 ·refine zj B D (j<|N X<|d<|J<|T ?_);cases H;exact eE O O
 refine zi B D (R<|L<|j<|N O<|N B<|d<|J ?_);cases H;exact eE O O
theorem zal{A:z4}{C:Int}{r:Int}(H:Je A C=some r):Fn Tryz.prog 44 (lent [.agg (j7 A),.int .i64 C]) true [.int .i64 r]:=by
 refine ac f44 O (G (zk [] (kv 0 (.agg<|jb A) O O<|kv 1 (oI C) O O Q) W I)<|j<|qS (n:=128) (m:=4) (cs:=jb A) O B O O nZ<|N X<|d<|j<|s (m:=1) O O<|zJ (es:=[.d (.sl 2<|A.Image.Cells.map ze),.d<|.sl 3<|A.Image.Seats.map zg]) B o O<|N O ?_);obtain⟨F,K,H⟩:=zn H;refine zI (u:=oI F) X g (zbZ K) (Ec O<|Ec B En) (Vc (am O)<|Vc Vp Vn) O (N B<|d<|aS<|j<|N B<|jM B X<|d ?_);obtain⟨D,H⟩|⟨D,H⟩:=ab H
 ·refine zj B D (j<|N X<|d<|J<|T ?_);cases H;exact eE O O
 refine zi B D (R<|L<|j<|s (m:=3) O O<|zh (q:=3) (c:=.d (.sl 5<|A.Entries.map zf)) B o O O<|N O ?_);obtain⟨M,P,H⟩:=zn H;refine zI (u:=oI M) X g (zbt P) (Ec O<|Ec B En) (Vc Vp<|Vc Vp Vn) O (N B<|d<|G (zk [128] (kr 1 O O Q) (q O) I)<|aS<|j<|N B<|jM B X<|d ?_);obtain⟨E,H⟩|⟨E,H⟩:=ab H
 ·refine zj B E (j<|N X<|d<|J<|T ?_);cases H;exact eE O O
 refine zi B E (R<|L<|j<|N O<|N B<|d<|J ?_);cases H;exact eE O O
theorem zc9{C:zE}{D:Int}{r:Int}(H:Js C D=some r):Fn Tryz.prog 166 (lent [.agg (zo C),.int .i64 D]) true [.int .i64 r]:=by
 refine ac zzL O (G (zk [] (kv 0 (.agg<|js C) O O<|kv 1 (oI D) O O Q) W I)<|j<|qS (n:=128) (m:=10) (cs:=js C) O B O O nZ<|N X<|d<|j<|s (m:=6) O O<|zJ (es:=[A C.Log.Base,.d<|.sl 2<|C.Log.Image.Cells.map ze,.d<|.sl 3<|C.Log.Image.Seats.map zg,.d<|.sl 5<|C.Log.Entries.map zf]) B o O<|N O ?_);obtain⟨F,K,H⟩:=zn H;refine zI (u:=oI F) X g (zal K) (Ec O<|Ec B En) (Vc (am O)<|Vc Vp Vn) O (N B<|d<|aS<|j<|N B<|jM B X<|d ?_);obtain⟨E,H⟩|⟨E,H⟩:=ab H
 ·refine zj B E (j<|N X<|d<|J<|T ?_);cases H;exact eE O O
 refine zi B E (R<|L<|j<|N O<|N B<|d<|J ?_);cases H;exact eE O O
theorem zcM{C:List zE}{K:Int}{r:Int}(H:QK C K=some r):Fn Tryz.prog 45 (lent [.sl 10 (C.map zo),.int .i64 K]) true [.int .i64 r]:=by
 refine ac f45 O (G (zk [] (kv 0 (.one<|.d<|.sl 10<|C.map zo) O O<|kv 1 (oI K) O O Q) W I)<|j<|N X<|d<|j<|N O<|N O<|qc B (n:=C.length) lm<|Xo O B<|N B<|d<|aS<|j<|N B<|jM B X<|d ?_);obtain⟨M,H⟩|⟨M,H⟩:=ab H
 ·refine zj B M (j<|N X<|d<|J<|T ?_);cases H;exact eE O O
 refine zi B M (R<|L<|zX (fun F:Int=>JI F=some r) (fun F=>mk [(1,oI F)] [] noG) ?_ ?_)
 ·intro F H;refine j (N B<|N B<|d<|J ?_);cases H;exact eE O O
 refine j (N X<|d<|p<|aw (fun D:(Int×Int)=>mk [(0,.one<|.d<|.sl 10<|C.map zo),(1,oI D.1),(5,oI D.2)] [] noG) H (zk [] (sR O O) W I) ?_);intro V D H;refine aS (j<|N O<|N O<|qc B (n:=C.length) lm<|jM O B<|d ?_);obtain⟨P,H⟩|⟨P,H⟩:=ab H
 ·refine zj B P (R<|L<|aS<|p<|j<|N O<|N O ?_);obtain⟨Y,S,H⟩:=zn H;refine jh O B S (qz (es:=js Y) B O<|N O ?_);obtain⟨E,U,H⟩:=zn H;refine zI (u:=oI E) X g (zc9 U) (Ec O<|Ec B En) (Vc (am O)<|Vc Vp Vn) O (N B<|d<|j<|N B<|jM B X<|d<|G (zk [] (kr 25 O O<|kr 1 O O<|kr 0 O O<|kr 5 O O Q) W I) ?_);obtain⟨A,H⟩|⟨A,H⟩:=ab H
  ·refine zj B A (j<|N X<|d<|J<|u<|T<|T<|u<|T ?_);cases H;exact eE O O
  exact zi B A (R<|az<|L<|aR<|N O<|qm B X<|N B<|zt<|L ⟨(E,ai D.2),H,zk [] (sR O O) W I⟩)
 exact zi B P (ax<|ap<|ap<|aE<|L ⟨D.1,H,zk [] (sR O O) W I⟩)
theorem zaz{C:zu}{D:Int}{r:Int}(H:Zu C D=some r):Fn Tryz.prog 9 (lent [.agg (qb C),.int .i64 D]) true [.int .i64 r]:=by
 refine ac f9 O (G (zk [] (kv 0 (.agg<|zD C) O O<|kv 1 (oI D) O O Q) W I)<|j<|qS (n:=128) (m:=13) (cs:=zD C) O B O O nZ<|N X<|d<|j<|s (m:=6) O O<|zJ (es:=[A C.Log.Base,.d<|.sl 2<|C.Log.Image.Cells.map ze,.d<|.sl 3<|C.Log.Image.Seats.map zg,.d<|.sl 5<|C.Log.Entries.map zf]) B o O<|N O ?_);obtain⟨K,M,H⟩:=zn H;refine zI (u:=oI K) X g (zal M) (Ec O<|Ec B En) (Vc (am O)<|Vc Vp Vn) O (N B<|d<|aS<|j<|N B<|jM B X<|d ?_);obtain⟨E,H⟩|⟨E,H⟩:=ab H
 ·refine zj B E (j<|N X<|d<|J<|T ?_);cases H;exact eE O O
 refine zi B E (R<|L<|j<|s (m:=10) O O<|zh (q:=10) (c:=.d (.sl 10<|C.Votes.map zo)) B o O O<|N O ?_);obtain⟨P,S,H⟩:=zn H;refine zI (u:=oI P) X g (zcM S) (Ec O<|Ec B En) (Vc Vp<|Vc Vp Vn) O (N B<|d<|G (zk [128] (kr 1 O O Q) (q O) I)<|aS<|j<|N B<|jM B X<|d ?_);obtain⟨F,H⟩|⟨F,H⟩:=ab H
 ·refine zj B F (j<|N X<|d<|J<|T ?_);cases H;exact eE O O
 refine zi B F (R<|L<|j<|N O<|N B<|d<|J ?_);cases H;exact eE O O
theorem zde{C:zT}{r:zT}(H:YY C=some r):Fn Tryz.prog 198 (lent [.agg (ze C)]) true [.agg (ze r)]:=by
 refine ac zzq O (G (zk [] (kv 0 (.agg [A C.Key,A C.Value]) O O Q) W I)<|j<|qS (n:=64) (m:=2) (cs:=[A C.Key,A C.Value]) O B O O nZ<|Q4 (n:=128) (m:=2) O O (nR O)<|d<|j<|Q4 (n:=192) (m:=2) O O (nR O)<|d<|j<|s (m:=0) O O<|zh (q:=0) (c:=A C.Key) B (bR O) O O<|s (m:=0) O O<|zZ (es:=[A C.Key,A 0]) B O O O o O<|d<|j<|s (m:=1) O O<|zh (q:=1) (c:=A C.Value) B (bR O) O O<|s (m:=1) O O<|zZ (es:=[A C.Key,A C.Value]) B O O O o O<|d<|j<|zJ (es:=[A C.Key,A C.Value]) O o O<|zZ (es:=[A C.Key,A C.Value]) O B O O (bR O) O<|d<|J ?_);cases H;exact jO (av (jL (es:=[A C.Key,A C.Value]) O o O) (bl (ds:=[.int .i64 C.Key,.int .i64 C.Value]) O O) ay) List.nodup_nil
theorem zbJ{E:List zT}{r:List zT}(H:QS E=some r):Fn Tryz.prog 85 (lent [.sl 2 (E.map ze)]) true [.sl 2 (List.map ze r)]:=by
 refine ac f85 O (G (zk [] (kv 0 (.one<|.d<|.sl 2<|E.map ze) O O Q) W I)<|j<|N X<|d<|j<|N O<|qc B (n:=E.length) lm ?_);obtain⟨T,H⟩:=qx H;refine zhG (f:=ze) (zv:=zT.mk 0 0) (own:=true) (m:=448) (q:=Int.toNat (E.length:Int)) O O B B T.1 T.2 O (by decide) O nZ (N B<|d<|zX (fun F:List zT=>JJ F=some r) (fun F=>mk [(3,.one<|ah 320128 F)] [(320128,.data 2 (List.map ze F) true none)] noG) ?_ ?_)
 ·intro F H;refine j (N B<|N B<|d<|J ?_);obtain rfl:=(Option.some.inj H);exact jO (av (aH B) (au o lm (zW fun _=>O)) ay) (by decide)
 refine j (N X<|d<|p<|aw (fun D:(List zT×Int)=>mk [(0,.one<|.d<|.sl 2<|E.map ze),(3,.one<|ah 320192 D.1),(4,oI D.2)] [(320192,.data 2 (List.map ze D.1) true none)] noG) H ((zk [] (kR O O<|aB (eR O) O (aC af)<|sR O O) (q O)<|bkR O O O).trans<|zaG 448 320192 O O<|nR O) ?_);intro V D H;refine aS (j<|N O<|N O<|qc B (n:=E.length) lm<|jM O B<|d ?_);obtain⟨M,H⟩|⟨M,H⟩:=ab H
 ·refine zj B M (R<|L<|aS<|p<|aR<|N O<|N O<|N O<|N O ?_);obtain⟨U,Y,H⟩:=zn H;refine jh O B Y (qz (es:=[A U.Key,A U.Value]) B O ?_);obtain⟨C,P,H⟩:=zn H;refine zI (u:=.agg [A C.Key,A C.Value]) X g (zde P) (Ec B En) (Vc (am O) Vn) O ?_;obtain⟨S,K,H⟩:=zn H;exact Zb O O o O K (xx (t:=S) (t':=C) (es:=[.int .i64 C.Key,.int .i64 C.Value]) B O O O o (qN K) O O<|zt<|az<|L<|aR<|N O<|qm B X<|N B<|zt<|L ⟨(D.1.set (Int.toNat D.2) C,ai D.2),H,zk [] (kR O O<|aB (eR O) O (aC af)<|sR O O) (q O)<|bkR O O O⟩)
 exact zi B M (ax<|ap<|ap<|aE<|L ⟨D.1,H,(zk [] (sR O O) (q O)<|bkR O O O).trans<|zaG 320192 320128 O O<|nR O⟩)
theorem zdh{C:zS}{r:zS}(H:YU C=some r):Fn Tryz.prog 335 (lent [.agg (zg C)]) true [.agg (zg r)]:=by
 refine ac zy0 O (G (zk [] (kv 0 (.agg [A C.Client,A C.Req,A C.Answer]) O O Q) W I)<|j<|qS (n:=64) (m:=3) (cs:=[A C.Client,A C.Req,A C.Answer]) O B O O nZ<|Q4 (n:=128) (m:=3) O O (nR O)<|d<|j<|Q4 (n:=192) (m:=3) O O (nR O)<|d<|j<|s (m:=0) O O<|zh (q:=0) (c:=A C.Client) B (bR O) O O<|s (m:=0) O O<|zZ (es:=[A C.Client,A 0,A 0]) B O O O o O<|d<|j<|s (m:=1) O O<|zh (q:=1) (c:=A C.Req) B (bR O) O O<|s (m:=1) O O<|zZ (es:=[A C.Client,A C.Req,A 0]) B O O O o O<|d<|j<|s (m:=2) O O<|zh (q:=2) (c:=A C.Answer) B (bR O) O O<|s (m:=2) O O<|zZ (es:=[A C.Client,A C.Req,A C.Answer]) B O O O o O<|d<|j<|zJ (es:=[A C.Client,A C.Req,A C.Answer]) O o O<|zZ (es:=[A C.Client,A C.Req,A C.Answer]) O B O O (bR O) O<|zt<|L<|J ?_);cases H;exact jO (av (jL (es:=[A C.Client,A C.Req,A C.Answer]) O o O) (bl (ds:=[.int .i64 C.Client,.int .i64 C.Req,.int .i64 C.Answer]) O O) ay) List.nodup_nil
theorem zcN{E:List zS}{r:List zS}(H:QO E=some r):Fn Tryz.prog 272 (lent [.sl 3 (E.map zg)]) true [.sl 3 (List.map zg r)]:=by
 refine ac zzH O (G (zk [] (kv 0 (.one<|.d<|.sl 3<|E.map zg) O O Q) W I)<|j<|N X<|d<|j<|N O<|qc B (n:=E.length) lm ?_);obtain⟨U,H⟩:=qx H;refine zhG (f:=zg) (zv:=zS.mk 0 0 0) (own:=true) (m:=448) (q:=Int.toNat (E.length:Int)) O O B B U.1 U.2 O (by decide) O nZ (N B<|d<|zX (fun F:List zS=>JS F=some r) (fun F=>mk [(3,.one<|ah 320128 F)] [(320128,.data 3 (List.map zg F) true none)] noG) ?_ ?_)
 ·intro F H;refine j (N B<|N B<|d<|J ?_);obtain rfl:=(Option.some.inj H);exact jO (av (aH B) (au o lm (zW fun _=>O)) ay) (by decide)
 refine j (N X<|d<|p<|aw (fun D:(List zS×Int)=>mk [(0,.one<|.d<|.sl 3<|E.map zg),(3,.one<|ah 320192 D.1),(4,oI D.2)] [(320192,.data 3 (List.map zg D.1) true none)] noG) H ((zk [] (kR O O<|aB (eR O) O (aC af)<|sR O O) (q O)<|bkR O O O).trans<|zaG 448 320192 O O<|nR O) ?_);intro V D H;refine aS (j<|N O<|N O<|qc B (n:=E.length) lm<|jM O B<|d ?_);obtain⟨M,H⟩|⟨M,H⟩:=ab H
 ·refine zj B M (R<|L<|aS<|p<|aR<|N O<|N O<|N O<|N O ?_);obtain⟨P,Y,H⟩:=zn H;refine jh O B Y (qz (es:=[A P.Client,A P.Req,A P.Answer]) B O ?_);obtain⟨C,S,H⟩:=zn H;refine zI (u:=.agg [A C.Client,A C.Req,A C.Answer]) X g (zdh S) (Ec B En) (Vc (am O) Vn) O ?_;obtain⟨T,K,H⟩:=zn H;exact Zb O O o O K (xx (t:=T) (t':=C) (es:=[.int .i64 C.Client,.int .i64 C.Req,.int .i64 C.Answer]) B O O O o (qN K) O O<|zt<|az<|L<|aR<|N O<|qm B X<|N B<|zt<|L ⟨(D.1.set (Int.toNat D.2) C,ai D.2),H,zk [] (kR O O<|aB (eR O) O (aC af)<|sR O O) (q O)<|bkR O O O⟩)
 exact zi B M (ax<|ap<|ap<|aE<|L ⟨D.1,H,(zk [] (sR O O) (q O)<|bkR O O O).trans<|zaG 320192 320128 O O<|nR O⟩)
theorem zco{C:zK}{r:zK}(H:QB C=some r):Fn Tryz.prog 176 (lent [.agg (jK C)]) true [.agg (jK r)]:=by
 refine ac zzC O (G (t:=mk [(0,.agg<|qf C)] [] (lk [])) (zk [] (sR O O) W I)<|j<|qS (n:=64) (m:=2) (cs:=qf C) O B O O nZ<|Q4 (n:=128) (m:=2) O O (nR O)<|d<|j<|Q4 (n:=192) (m:=2) O O (nR O)<|d<|aS<|qo<|zC<|s (m:=0) O O<|zt<|zC<|zh (q:=0) (c:=.d (.sl 2<|C.Cells.map ze)) B (bR O) O O<|zt<|zC ?_);obtain⟨A,F,H⟩:=zn H;refine jS (u:=.one (ah 384 A)) (bs:=[(384,.data 2 (A.map ze) true none)]) X g (zbJ F) (Ec B En) (Vc Vp Vn) (by simp[jv,jZ,qW,jG,qA]) O (fC (nR O) O<|fC (nR O) O fN) (zt<|zC<|s (m:=0) O O<|zt<|zC<|zZ (es:=[ah 384 A,.zs]) B O O O (bR O) O<|zt<|qy<|d<|aS<|qo<|zC<|s (m:=1) O O<|zt<|zC<|zh (q:=1) (c:=.d (.sl 3<|C.Seats.map zg)) B (bR O) O O<|zt<|zC ?_);obtain⟨D,K,H⟩:=zn H;refine jS (u:=.one (ah 640 D)) (bs:=[(640,.data 3 (D.map zg) true none)]) X g (zcN K) (Ec B En) (Vc Vp Vn) (by simp[jv,jZ,qW,jG,qA]) O (fC (nR O) O<|fC (nR O) O fN) (zt<|zC<|s (m:=1) O O<|zt<|zC<|zZ (es:=[ah 384 A,ah 640 D]) B O O O (bR O) O<|zt<|qy<|d<|aS<|qo<|zC<|zJ (es:=[ah 384 A,ah 640 D]) O o O<|zt<|zC<|zZ (es:=[ah 384 A,ah 640 D]) O B O O (bR O) O<|zt<|qy<|d<|J ?_);cases H;exact jO (av (jL (es:=[ah 384 A,ah 640 D]) O o O) (aK<|E (au (bR O) lm (zW fun _=>O))<|E (au (bR O) lm (zW fun _=>O)) aD) ay) (by decide)
theorem zeq{C:ji}{r:ji}(H:xz C=some r):Fn Tryz.prog 336 (lent [.agg (XR C)]) true [.agg (XR r)]:=by
 refine ac zz7 O (G (zk [] (kv 0 (.agg [A C.Kind,A C.Key,A C.Value]) O O Q) W I)<|j<|qS (n:=64) (m:=3) (cs:=[A C.Kind,A C.Key,A C.Value]) O B O O nZ<|Q4 (n:=128) (m:=3) O O (nR O)<|d<|j<|Q4 (n:=192) (m:=3) O O (nR O)<|d<|j<|s (m:=0) O O<|zh (q:=0) (c:=A C.Kind) B (bR O) O O<|s (m:=0) O O<|zZ (es:=[A C.Kind,A 0,A 0]) B O O O o O<|d<|j<|s (m:=1) O O<|zh (q:=1) (c:=A C.Key) B (bR O) O O<|s (m:=1) O O<|zZ (es:=[A C.Kind,A C.Key,A 0]) B O O O o O<|d<|j<|s (m:=2) O O<|zh (q:=2) (c:=A C.Value) B (bR O) O O<|s (m:=2) O O<|zZ (es:=[A C.Kind,A C.Key,A C.Value]) B O O O o O<|d<|j<|zJ (es:=[A C.Kind,A C.Key,A C.Value]) O o O<|zZ (es:=[A C.Kind,A C.Key,A C.Value]) O B O O (bR O) O<|zt<|L<|J ?_);cases H;exact jO (av (jL (es:=[A C.Kind,A C.Key,A C.Value]) O o O) (bl (ds:=[.int .i64 C.Kind,.int .i64 C.Key,.int .i64 C.Value]) O O) ay) List.nodup_nil
theorem zb2{C:zA}{r:zA}(H:Yo C=some r):Fn Tryz.prog 273 (lent [.agg (zf C)]) true [.agg (zf r)]:=by
 refine ac zAd O (G (zk [] (kv 0 (.agg<|qg C) O O Q) W I)<|j<|qS (n:=64) (m:=5) (cs:=qg C) O B O O nZ<|Q4 (n:=128) (m:=5) O O (nR O)<|d<|j<|Q4 (n:=192) (m:=5) O O (nR O)<|d<|j<|s (m:=0) O O<|zh (q:=0) (c:=A C.Client) B (bR O) O O<|s (m:=0) O O<|zZ (es:=[A C.Client,A 0,A 0,A 0,A 0]) B O O O o O<|d<|j<|s (m:=1) O O<|zh (q:=1) (c:=A C.Req) B (bR O) O O<|s (m:=1) O O<|zZ (es:=[A C.Client,A C.Req,A 0,A 0,A 0]) B O O O o O<|d<|j<|s (m:=2) O O<|zJ (es:=[A C.Cmd.Kind,A C.Cmd.Key,A C.Cmd.Value]) B (bR O) O ?_);obtain⟨D,E,H⟩:=zn H;refine zI (u:=.agg [A D.Kind,A D.Key,A D.Value]) X g (zeq E) (Ec B En) (Vc (am O) Vn) O (s (m:=2) O O<|zZ (es:=[A C.Client,A C.Req,A D.Kind,A D.Key,A D.Value]) B O O O o O<|d<|j<|zJ (es:=[A C.Client,A C.Req,A D.Kind,A D.Key,A D.Value]) O o O<|zZ (es:=[A C.Client,A C.Req,A D.Kind,A D.Key,A D.Value]) O B O O (bR O) O<|d<|J ?_);cases H;exact jO (av (jL (es:=[A C.Client,A C.Req,A D.Kind,A D.Key,A D.Value]) O o O) (bl (ds:=[.int .i64 C.Client,.int .i64 C.Req,.int .i64 D.Kind,.int .i64 D.Key,.int .i64 D.Value]) O O) ay) List.nodup_nil
theorem zbp{D:List zA}{r:List zA}(H:ZS D=some r):Fn Tryz.prog 177 (lent [.sl 5 (D.map zf)]) true [.sl 5 (List.map zf r)]:=by
 refine ac zzz O (G (zk [] (kv 0 (.one<|.d<|.sl 5<|D.map zf) O O Q) W I)<|j<|N X<|d<|j<|N O<|qc B (n:=D.length) lm ?_);obtain⟨S,H⟩:=qx H;refine zhG (f:=zf) (zv:=zA.mk 0 0 (ji.mk 0 0 0)) (own:=true) (m:=448) (q:=Int.toNat (D.length:Int)) O O B B S.1 S.2 O (by decide) O nZ (N B<|d<|zX (fun E:List zA=>Jb E=some r) (fun E=>mk [(3,.one<|ah 320128 E)] [(320128,.data 5 (List.map zf E) true none)] noG) ?_ ?_)
 ·intro E H;refine j (N B<|N B<|d<|J ?_);obtain rfl:=(Option.some.inj H);exact jO (av (aH B) (au o lm (zW fun _=>O)) ay) (by decide)
 refine j (N X<|d<|p<|aw (fun C:(List zA×Int)=>mk [(0,.one<|.d<|.sl 5<|D.map zf),(3,.one<|ah 320192 C.1),(4,oI C.2)] [(320192,.data 5 (List.map zf C.1) true none)] noG) H ((zk [] (kR O O<|aB (eR O) O (aC af)<|sR O O) (q O)<|bkR O O O).trans<|zaG 448 320192 O O<|nR O) ?_);intro T C H;refine aS (j<|N O<|N O<|qc B (n:=D.length) lm<|jM O B<|d ?_);obtain⟨K,H⟩|⟨K,H⟩:=ab H
 ·refine zj B K (R<|L<|aS<|p<|aR<|N O<|N O<|N O<|N O ?_);obtain⟨U,V,H⟩:=zn H;refine jh O B V (qz (es:=qg U) B O ?_);obtain⟨A,M,H⟩:=zn H;refine zI (u:=.agg (qg A)) X g (zb2 M) (Ec B En) (Vc (am O) Vn) O ?_;obtain⟨P,F,H⟩:=zn H;exact Zb O O o O F (xx (t:=P) (t':=A) (es:=[.int .i64 A.Client,.int .i64 A.Req,.int .i64 A.Cmd.Kind,.int .i64 A.Cmd.Key,.int .i64 A.Cmd.Value]) B O O O o (qN F) O O<|zt<|az<|L<|aR<|N O<|qm B X<|N B<|zt<|L ⟨(C.1.set (Int.toNat C.2) A,ai C.2),H,zk [] (kR O O<|aB (eR O) O (aC af)<|sR O O) (q O)<|bkR O O O⟩)
 exact zi B K (ax<|ap<|ap<|aE<|L ⟨C.1,H,(zk [] (sR O O) (q O)<|bkR O O O).trans<|zaG 320192 320128 O O<|nR O⟩)
theorem zai{C:z4}{r:z4}(H:Q7 C=some r):Fn Tryz.prog 54 (lent [.agg (j7 C)]) true [.agg (j7 r)]:=by
 refine ac f54 O (G (t:=mk [(0,.agg<|jb C)] [] (lk [])) (zk [] (sR O O) W I)<|j<|qS (n:=64) (m:=4) (cs:=jb C) O B O O nZ<|Q4 (n:=128) (m:=4) O O (nR O)<|d<|j<|Q4 (n:=192) (m:=4) O O (nR O)<|d<|j<|s (m:=0) O O<|zh (q:=0) (c:=A C.Base) B (bR O) O O<|s (m:=0) O O<|zZ (es:=[A C.Base,.zs,.zs,.zs]) B O O O o O<|d<|aS<|qo<|zC<|s (m:=1) O O<|zt<|zC<|zJ (es:=[.d (.sl 2<|C.Image.Cells.map ze),.d<|.sl 3<|C.Image.Seats.map zg]) B (bR O) O<|zt<|zC ?_);obtain⟨D,L,H⟩:=zn H;refine jS (u:=.agg [ah 576 D.Cells,ah 577 D.Seats]) (bs:=[(576,.data 2 (D.Cells.map ze) true none),(577,.data 3 (D.Seats.map zg) true none)]) X g (zco L) (Ec B En) (Vc (am O) Vn) (by simp[jv,jZ,qW,jG,qA]) O (fC (nR O) O<|fC (nR O) O<|fC (nR O) O fN) (zt<|zC<|s (m:=1) O O<|zt<|zC<|zZ (es:=[A C.Base,ah 576 D.Cells,ah 577 D.Seats,.zs]) B O O O (bR O) O<|zt<|qy<|d<|aS<|qo<|zC<|s (m:=3) O O<|zt<|zC<|zh (q:=3) (c:=.d (.sl 5<|C.Entries.map zf)) B (bR O) O O<|zt<|zC ?_);obtain⟨F,M,H⟩:=zn H;refine jS (u:=.one (ah 832 F)) (bs:=[(832,.data 5 (F.map zf) true none)]) X g (zbp M) (Ec B En) (Vc Vp Vn) (by simp[jv,jZ,qW,jG,qA]) O (fC (nR O) O<|fC (nR O) O fN) (zt<|zC<|s (m:=3) O O<|zt<|zC<|zZ (es:=[A C.Base,ah 576 D.Cells,ah 577 D.Seats,ah 832 F]) B O O O (bR O) O<|zt<|qy<|d<|aS<|qo<|zC<|zJ (es:=[A C.Base,ah 576 D.Cells,ah 577 D.Seats,ah 832 F]) O o O<|zt<|zC<|zZ (es:=[A C.Base,ah 576 D.Cells,ah 577 D.Seats,ah 832 F]) O B O O (bR O) O<|zt<|qy<|d<|G (zP [192,64] (kr 2 O O Q) (q O) (S (n:=128) O o O O<|S (n:=832) O (bR O) O O<|S (n:=577) O (bR O) O O<|S (n:=576) O (bR O) O O I) t)<|J ?_);cases H;exact jO (av (jL (es:=[A C.Base,ah 576 D.Cells,ah 577 D.Seats,ah 832 F]) B o O) (aK<|E (K O)<|E (au (bR O) lm (zW fun _=>O))<|E (au (bR O) lm (zW fun _=>O))<|E (au (bR O) lm (zW fun _=>O)) aD) ay) (by decide)
theorem zdl{C:zE}{r:zE}(H:JE C=some r):Fn Tryz.prog 178 (lent [.agg (zo C)]) true [.agg (zo r)]:=by
 refine ac zzA O (G (t:=mk [(0,.agg<|js C)] [] (lk [])) (zk [] (sR O O) W I)<|j<|qS (n:=64) (m:=10) (cs:=js C) O B O O nZ<|Q4 (n:=128) (m:=10) O O (nR O)<|d<|j<|Q4 (n:=192) (m:=10) O O (nR O)<|d<|j<|s (m:=0) O O<|zh (q:=0) (c:=A C.Kind) B (bR O) O O<|s (m:=0) O O<|zZ (es:=[A C.Kind,A 0,A 0,A 0,A 0,A 0,A 0,.zs,.zs,.zs]) B O O O o O<|d<|j<|s (m:=1) O O<|zh (q:=1) (c:=A C.From) B (bR O) O O<|s (m:=1) O O<|zZ (es:=[A C.Kind,A C.From,A 0,A 0,A 0,A 0,A 0,.zs,.zs,.zs]) B O O O o O<|d<|j<|s (m:=2) O O<|zh (q:=2) (c:=A C.View) B (bR O) O O<|s (m:=2) O O<|zZ (es:=[A C.Kind,A C.From,A C.View,A 0,A 0,A 0,A 0,.zs,.zs,.zs]) B O O O o O<|d<|j<|s (m:=3) O O<|zh (q:=3) (c:=A C.Normal) B (bR O) O O<|s (m:=3) O O<|zZ (es:=[A C.Kind,A C.From,A C.View,A C.Normal,A 0,A 0,A 0,.zs,.zs,.zs]) B O O O o O<|d<|G (zP [] (kr 3 O O<|kr 2 O O<|kr 1 O O Q) (q O) (S (n:=192) O o O O<|S (n:=128) O (bR O) O O<|S (n:=64) O (bR O) O O I) t)<|j<|s (m:=4) O O<|zh (q:=4) (c:=A C.Op) B (bR O) O O<|s (m:=4) O O<|zZ (es:=[A C.Kind,A C.From,A C.View,A C.Normal,A C.Op,A 0,A 0,.zs,.zs,.zs]) B O O O o O<|d<|j<|s (m:=5) O O<|zh (q:=5) (c:=A C.Commit) B (bR O) O O<|s (m:=5) O O<|zZ (es:=[A C.Kind,A C.From,A C.View,A C.Normal,A C.Op,A C.Commit,A 0,.zs,.zs,.zs]) B O O O o O<|d<|aS<|qo<|zC<|s (m:=6) O O<|zt<|zC<|zJ (es:=[A C.Log.Base,.d<|.sl 2<|C.Log.Image.Cells.map ze,.d<|.sl 3<|C.Log.Image.Seats.map zg,.d<|.sl 5<|C.Log.Entries.map zf]) B (bR O) O<|zt<|zC ?_);obtain⟨D,F,H⟩:=zn H;refine jS (u:=.agg [A D.Base,ah 1537 D.Image.Cells,ah 1538 D.Image.Seats,ah 1539 D.Entries]) (bs:=[(1537,.data 2 (D.Image.Cells.map ze) true none),(1538,.data 3 (D.Image.Seats.map zg) true none),(1539,.data 5 (D.Entries.map zf) true none)]) X g (zai F) (Ec B En) (Vc (am O) Vn) (by simp[jv,jZ,qW,jG,qA]) O (fC (nR O) O<|fC (nR O) O<|fC (nR O) O<|fC (nR O) O fN) (zt<|zC<|s (m:=6) O O<|zt<|zC<|zZ (es:=[A C.Kind,A C.From,A C.View,A C.Normal,A C.Op,A C.Commit,A D.Base,ah 1537 D.Image.Cells,ah 1538 D.Image.Seats,ah 1539 D.Entries]) B O O O (bR O) O<|zt<|qy<|d<|aS<|qo<|zC<|zJ (es:=[A C.Kind,A C.From,A C.View,A C.Normal,A C.Op,A C.Commit,A D.Base,ah 1537 D.Image.Cells,ah 1538 D.Image.Seats,ah 1539 D.Entries]) O o O<|zt<|zC<|zZ (es:=[A C.Kind,A C.From,A C.View,A C.Normal,A C.Op,A C.Commit,A D.Base,ah 1537 D.Image.Cells,ah 1538 D.Image.Seats,ah 1539 D.Entries]) O B O O (bR O) O<|zt<|qy<|d<|J ?_);cases H;exact jO (av (jL (es:=[A C.Kind,A C.From,A C.View,A C.Normal,A C.Op,A C.Commit,A D.Base,ah 1537 D.Image.Cells,ah 1538 D.Image.Seats,ah 1539 D.Entries]) O o O) (aK<|E (K O)<|E (K O)<|E (K O)<|E (K O)<|E (K O)<|E (K O)<|E (K O)<|E (au (bR O) lm (zW fun _=>O))<|E (au (bR O) lm (zW fun _=>O))<|E (au (bR O) lm (zW fun _=>O)) aD) ay) (by decide)
theorem zcE{F:List zE}{r:List zE}(H:QE F=some r):Fn Tryz.prog 55 (lent [.sl 10 (F.map zo)]) true [.sl 10 (List.map zo r)]:=by
 refine ac f55 O (G (t:=mk [(0,.one<|.d<|.sl 10<|F.map zo)] [] (lk [])) (zk [] (sR O O) W I)<|j<|N X<|d<|aS<|qo<|zC<|N O<|zt<|zC<|qc B (n:=F.length) lm<|zt ?_);obtain⟨V,H⟩:=qx H;refine zrx (f:=zo) (zv:=zE.mk 0 0 0 0 0 0 (z4.mk 0 (zK.mk ([]:List zT) ([]:List zS)) ([]:List zA))) (m:=448) (q:=Int.toNat (F.length:Int)) O B B V.1 V.2 O (by decide) O nZ (qy<|N B<|d<|zX (fun M:List zE=>JW M=some r) (fun M=>mk [(3,.one<|ah 320128 M)] [(320128,.data 10 (List.map zo M) true none)] (lk [])) ?_ ?_)
 ·intro M H;refine j (N B<|N B<|d<|J ?_);obtain rfl:=(Option.some.inj H);exact jO (av (aH B) (ZG o lm O) ay) (by decide)
 refine j (N X<|d<|p<|aw (fun D:(List zE×Int)=>mk [(0,.one<|.d<|.sl 10<|F.map zo),(3,.one<|ah 320192 D.1),(4,oI D.2)] [(320192,.data 10 (List.map zo D.1) true none)] (lk [])) H ((zP [] (kR O O<|aB (eR O) O (aC af)<|sR O O) (q O) (bkR O O O) t).trans<|Zf 448 320192 O O (nR O) aQ) ?_);intro Y D H;refine aS (j<|N O<|N O<|qc B (n:=F.length) lm<|jM O B<|d ?_);obtain⟨Q,H⟩|⟨Q,H⟩:=ab H
 ·refine zj B Q (R<|L<|aS<|p<|qo<|zC<|N O<|zt<|zC<|N O<|zt<|zC<|N O<|zt<|zC<|N O<|zt<|zC ?_);obtain⟨S,Z,H⟩:=zn H;refine jh O B Z (zt<|zC<|qz (es:=js S) B O<|zt<|zC ?_);obtain⟨C,T,H⟩:=zn H;refine jS (u:=.agg [A C.Kind,A C.From,A C.View,A C.Normal,A C.Op,A C.Commit,A C.Log.Base,ah 1287 C.Log.Image.Cells,ah 1288 C.Log.Image.Seats,ah 1289 C.Log.Entries]) (bs:=[(1287,.data 2 (C.Log.Image.Cells.map ze) true none),(1288,.data 3 (C.Log.Image.Seats.map zg) true none),(1289,.data 5 (C.Log.Entries.map zf) true none)]) X g (zdl T) (Ec B En) (Vc (am O) Vn) (by simp[jv,jZ,qW,jG,qA]) O (fC (nR O) O<|fC (nR O) O<|fC (nR O) O<|fC (nR O) O fN) (zt<|zC ?_);obtain⟨U,P,H⟩:=zn H;exact Zb O O (bR O) O P (zt<|zga (f:=zo) (t:=U) (t':=C) (ds:=[.int .i64 C.Kind,.int .i64 C.From,.int .i64 C.View,.int .i64 C.Normal,.int .i64 C.Op,.int .i64 C.Commit,.int .i64 C.Log.Base,.sl 2<|C.Log.Image.Cells.map ze,.sl 3<|C.Log.Image.Seats.map zg,.sl 5<|C.Log.Entries.map zf]) (ns:=[1287,1288,1289]) B O O O (bR O) (qN P) (E (K O)<|E (K O)<|E (K O)<|E (K O)<|E (K O)<|E (K O)<|E (K O)<|E (au (bR O) lm (zW fun _=>O))<|E (au (bR O) lm (zW fun _=>O))<|E (au o lm (zW fun _=>O)) aD) O O (i (.one<|.ptr<|.nm 320192 (Int.toNat D.2) 0) O<|i (.agg [A C.Kind,A C.From,A C.View,A C.Normal,A C.Op,A C.Commit,A C.Log.Base,.any,.any,.any]) O<|i (.agg<|js S) O<|i (.one<|.ptr<|.bd (zo S) 0) O<|i (oI D.2) O<|i (.one<|.d<|.sl 10<|F.map zo) O<|i (oI D.2) O<|i (.one<|ah 320192 D.1) O<|i (oB<|decide (D.2 < (F.length:Int))) O<|i (oI (F.length:Int)) O<|i (.one<|.d<|.sl 10<|F.map zo) O<|i (oI D.2) O<|i (.one<|.d<|.sl 10<|F.map zo) O<|i (.one<|ah 320192 D.1) O<|i (oI D.2) O m) (aA O<|aA O<|aA O<|ak (.data 10 (List.map zo D.1) true none) O O aq) m<|qy<|zt<|az<|L<|aR<|N O<|qm B X<|N B<|zt<|L ⟨(D.1.set (Int.toNat D.2) C,ai D.2),H,zP [] (kR O O<|aB (eR O) O (aC af)<|sR O O) (q O) (bkR O O O) t⟩)
 exact zi B Q (ax<|ap<|ap<|aE<|L ⟨D.1,H,(zP [] (sR O O) (q O) (bkR O O O) t).trans<|Zf 320192 320128 O O (nR O) aQ⟩)
theorem Jf{C:zu}{r:zu}(H:jz C=some r):Fn Tryz.prog 11 (lent [.agg (qb C)]) true [.agg (qb r)]:=by
 refine ac f11 O (G (t:=mk [(0,.agg<|zD C)] [] (lk [])) (zk [] (sR O O) W I)<|j<|qS (n:=64) (m:=13) (cs:=zD C) O B O O nZ<|Q4 (n:=128) (m:=13) O O (nR O)<|d<|j<|Q4 (n:=192) (m:=13) O O (nR O)<|d<|j<|s (m:=0) O O<|zh (q:=0) (c:=A C.Me) B (bR O) O O<|s (m:=0) O O<|zZ (es:=[A C.Me,A 0,A 0,A 0,A 0,A 0,A 0,.zs,.zs,.zs,.zs,A 0,A 0]) B O O O o O<|d<|j<|s (m:=1) O O<|zh (q:=1) (c:=A C.Of) B (bR O) O O<|s (m:=1) O O<|zZ (es:=[A C.Me,A C.Of,A 0,A 0,A 0,A 0,A 0,.zs,.zs,.zs,.zs,A 0,A 0]) B O O O o O<|d<|j<|s (m:=2) O O<|zh (q:=2) (c:=A C.Mode) B (bR O) O O<|s (m:=2) O O<|zZ (es:=[A C.Me,A C.Of,A C.Mode,A 0,A 0,A 0,A 0,.zs,.zs,.zs,.zs,A 0,A 0]) B O O O o O<|d<|j<|s (m:=3) O O<|zh (q:=3) (c:=A C.View) B (bR O) O O<|s (m:=3) O O<|zZ (es:=[A C.Me,A C.Of,A C.Mode,A C.View,A 0,A 0,A 0,.zs,.zs,.zs,.zs,A 0,A 0]) B O O O o O<|d<|G (zP [] (kr 3 O O<|kr 2 O O<|kr 1 O O Q) (q O) (S (n:=192) O o O O<|S (n:=128) O (bR O) O O<|S (n:=64) O (bR O) O O I) t)<|j<|s (m:=4) O O<|zh (q:=4) (c:=A C.Normal) B (bR O) O O<|s (m:=4) O O<|zZ (es:=[A C.Me,A C.Of,A C.Mode,A C.View,A C.Normal,A 0,A 0,.zs,.zs,.zs,.zs,A 0,A 0]) B O O O o O<|d<|j<|s (m:=5) O O<|zh (q:=5) (c:=A C.Commit) B (bR O) O O<|s (m:=5) O O<|zZ (es:=[A C.Me,A C.Of,A C.Mode,A C.View,A C.Normal,A C.Commit,A 0,.zs,.zs,.zs,.zs,A 0,A 0]) B O O O o O<|d<|aS<|qo<|zC<|s (m:=6) O O<|zt<|zC<|zJ (es:=[A C.Log.Base,.d<|.sl 2<|C.Log.Image.Cells.map ze,.d<|.sl 3<|C.Log.Image.Seats.map zg,.d<|.sl 5<|C.Log.Entries.map zf]) B (bR O) O<|zt<|zC ?_);obtain⟨D,L,H⟩:=zn H;refine jS (u:=.agg [A D.Base,ah 1537 D.Image.Cells,ah 1538 D.Image.Seats,ah 1539 D.Entries]) (bs:=[(1537,.data 2 (D.Image.Cells.map ze) true none),(1538,.data 3 (D.Image.Seats.map zg) true none),(1539,.data 5 (D.Entries.map zf) true none)]) X g (zai L) (Ec B En) (Vc (am O) Vn) (by simp[jv,jZ,qW,jG,qA]) O (fC (nR O) O<|fC (nR O) O<|fC (nR O) O<|fC (nR O) O fN) (zt<|zC<|s (m:=6) O O<|zt<|zC<|zZ (es:=[A C.Me,A C.Of,A C.Mode,A C.View,A C.Normal,A C.Commit,A D.Base,ah 1537 D.Image.Cells,ah 1538 D.Image.Seats,ah 1539 D.Entries,.zs,A 0,A 0]) B O O O (bR O) O<|zt<|qy<|d<|aS<|qo<|zC<|s (m:=10) O O<|zt<|zC<|zh (q:=10) (c:=.d (.sl 10<|C.Votes.map zo)) B (bR O) O O<|zt<|zC ?_);obtain⟨F,M,H⟩:=zn H;refine jS (u:=.one (ah 1792 F)) (bs:=[(1792,.data 10 (F.map zo) true none)]) X g (zcE M) (Ec B En) (Vc Vp Vn) (by simp[jv,jZ,qW,jG,qA]) O (fC (nR O) O<|fC (nR O) O fN) (zt<|zC<|s (m:=10) O O<|zt<|zC<|zZ (es:=[A C.Me,A C.Of,A C.Mode,A C.View,A C.Normal,A C.Commit,A D.Base,ah 1537 D.Image.Cells,ah 1538 D.Image.Seats,ah 1539 D.Entries,ah 1792 F,A 0,A 0]) B O O O (bR O) O<|zt<|qy<|d<|G (zP [] (kr 3 O O<|kr 2 O O<|kr 1 O O Q) (q O) (S (n:=192) O o O O<|S (n:=1792) O (bR O) O O<|S (n:=1539) O (bR O) O O<|S (n:=1538) O (bR O) O O<|S (n:=1537) O (bR O) O O<|S (n:=128) O (bR O) O O<|S (n:=64) O (bR O) O O I) t)<|j<|s (m:=11) O O<|zh (q:=11) (c:=A C.Cell) B (bR O) O O<|s (m:=11) O O<|zZ (es:=[A C.Me,A C.Of,A C.Mode,A C.View,A C.Normal,A C.Commit,A D.Base,ah 1537 D.Image.Cells,ah 1538 D.Image.Seats,ah 1539 D.Entries,ah 1792 F,A C.Cell,A 0]) B O O O o O<|d<|j<|s (m:=12) O O<|zh (q:=12) (c:=A C.Nonce) B (bR O) O O<|s (m:=12) O O<|zZ (es:=[A C.Me,A C.Of,A C.Mode,A C.View,A C.Normal,A C.Commit,A D.Base,ah 1537 D.Image.Cells,ah 1538 D.Image.Seats,ah 1539 D.Entries,ah 1792 F,A C.Cell,A C.Nonce]) B O O O o O<|d<|aS<|qo<|zC<|zJ (es:=[A C.Me,A C.Of,A C.Mode,A C.View,A C.Normal,A C.Commit,A D.Base,ah 1537 D.Image.Cells,ah 1538 D.Image.Seats,ah 1539 D.Entries,ah 1792 F,A C.Cell,A C.Nonce]) O o O<|zt<|zC<|zZ (es:=[A C.Me,A C.Of,A C.Mode,A C.View,A C.Normal,A C.Commit,A D.Base,ah 1537 D.Image.Cells,ah 1538 D.Image.Seats,ah 1539 D.Entries,ah 1792 F,A C.Cell,A C.Nonce]) O B O O (bR O) O<|zt<|qy<|d<|J ?_);cases H;exact jO (av (jL (es:=[A C.Me,A C.Of,A C.Mode,A C.View,A C.Normal,A C.Commit,A D.Base,ah 1537 D.Image.Cells,ah 1538 D.Image.Seats,ah 1539 D.Entries,ah 1792 F,A C.Cell,A C.Nonce]) O o O) (aK<|E (K O)<|E (K O)<|E (K O)<|E (K O)<|E (K O)<|E (K O)<|E (K O)<|E (au (bR O) lm (zW fun _=>O))<|E (au (bR O) lm (zW fun _=>O))<|E (au (bR O) lm (zW fun _=>O))<|E (ZG (bR O) lm O)<|E (K O)<|E (K O) aD) ay) (by decide)
theorem za2{D:Int}{r:Bool}(H:Yd D=some r):Fn Tryz.prog 167 (lent [.int .i64 D]) true [.bool r]:=by
 refine ac zy4 O (G (zk [] (kv 0 (oI D) O O Q) W I)<|j<|N X<|d<|j<|N O<|jE B X<|N B ?_);obtain⟨A,H⟩|⟨A,H⟩:=ab H
 ·refine Z B A O (Z O A O<|zr O A X<|N B<|Z B O O<|Z O O O<|zr O O X<|N B<|d<|J ?_);cases H;exact eE O O
 refine Y B A (N O<|Y O A<|jE B X<|zx O A B<|N B ?_);obtain⟨C,H⟩|⟨C,H⟩:=zy H
 ·refine Z B (dT C) O (Z O (dT C) O<|zr O (dT C) X<|N B<|d<|J ?_);cases H;exact eE O O
 refine Y B (dF C) (N O<|Y O (dF C)<|jE B X<|zx O (dF C) B<|N B<|d<|J ?_);cases H;exact eE O O
theorem QH{C:Int}{D:Int}{E:Int}{r:Bool}(H:j6 C D E=some r):Fn Tryz.prog 168 (lent [.int .i64 C,.int .i64 D,.int .i64 E]) true [.bool r]:=by
 refine ac zz9 O (G (zk [] (kv 0 (oI C) O O<|kv 1 (oI D) O O<|kv 2 (oI E) O O Q) W I)<|j<|N X<|d<|j<|N O<|N O<|zdm O B<|N B ?_);obtain⟨A,H⟩|⟨A,H⟩:=ab H
 ·refine Y B A (N O<|Y O A<|N O<|Y O A<|zem O B<|zr O A B<|N B<|d<|J ?_);cases H;exact eE O O
 refine Z B A O (Z O A O<|Z O A O<|zx O A X<|N B<|d<|J ?_);cases H;exact eE O O
theorem qk{A:Int}{r:Bool}(H:z9 A=some r):Fn Tryz.prog 169 (lent [.int .i64 A]) true [.bool r]:=by
 refine ac zzR O (G (zk [] (kv 0 (oI A) O O Q) W I)<|j<|N X<|d<|j<|N O ?_);obtain⟨C,D,H⟩:=zn H;refine zI (u:=oB C) X g (QH D) (Ec B<|Ec X<|Ec X En) (Vc Vp<|Vc Vp<|Vc Vp Vn) O (N B<|d<|J ?_);cases H;exact eE O O
theorem zb4{F:zK}{r:Bool}(H:QL F=some r):Fn Tryz.prog 154 (lent [.agg (jK F)]) true [.bool r]:=by
 refine ac zy5 O (G (zk [] (kv 0 (.agg<|qf F) O O Q) W I)<|j<|qS (n:=64) (m:=2) (cs:=qf F) O B O O nZ<|N X<|d<|aS<|zX (fun t2:Bool=>Qa F t2=some r) (fun t2=>mk [(1,.one<|.ptr<|.nm 64 0 0),(15,oB t2)] [(64,.vars 2<|qf F)] noG) ?_ ?_)
 ·intro t2 H;obtain⟨h4,H⟩|⟨h4,H⟩:=aa H
  ·refine zj O h4 (j<|N X<|d<|J<|T ?_);cases H;exact eE O O
  refine zi O h4 (R<|L<|zX (fun t5:Unit=>ZZ F t5=some r) (fun t5=>mk [(1,.one<|.ptr<|.nm 64 0 0)] [(64,.vars 2<|qf F)] noG) ?_ ?_)
  ·intro t5 H;refine zX (fun t7:Unit=>Z4 t7=some r) (fun t7=>mk [] [] noG) ?_ ?_
   ·intro t7 H;refine j (N X<|d<|J ?_);cases H;exact eE O O
   refine j (N X<|d<|p<|aw (fun t:Int=>mk [(1,.one<|.ptr<|.nm 64 0 0),(4,oI t)] [(64,.vars 2<|qf F)] noG) H (zk [] (sR O O) (q O)<|bkR O O O) ?_);intro v t H;refine aS (j<|N O<|s (m:=1) O O<|zh (q:=1) (c:=.d (.sl 3<|F.Seats.map zg)) B o O O<|qc B (n:=F.Seats.length) lm<|jM O B<|d ?_);obtain⟨h,H⟩|⟨h,H⟩:=ab H
   ·refine zj B h (R<|L<|aS<|p<|j<|s (m:=1) O O<|zh (q:=1) (c:=.d (.sl 3<|F.Seats.map zg)) B o O O<|N O ?_);obtain⟨P,a2,H⟩:=zn H;refine jh O B a2 (qz (es:=[A P.Client,A P.Req,A P.Answer]) B O<|Q4 (n:=320) (m:=3) O O (nR O)<|zZ (es:=[A P.Client,A P.Req,A P.Answer]) B O O O o O<|d<|zX (fun b:Bool=>(jD v t) b=some r) (fun b=>mk [(1,.one<|.ptr<|.nm 64 0 0),(4,oI t),(104,oB b)] [(64,.vars 2<|qf F)] noG) ?_ ?_)
    ·intro b H;obtain⟨i,H⟩|⟨i,H⟩:=aa H
     ·refine zj O i (j<|N X<|d<|J<|u<|T<|T<|u<|T ?_);cases H;exact eE O O
     exact zi O i (R<|az<|L<|aR<|N O<|qm B X<|N B<|zt<|L ⟨ai t,H,zk [] (sR O O) (q O)<|bkR O O O⟩)
    refine aF (s (m:=0) B O<|zh (q:=0) (c:=A P.Client) B o O O ?_);obtain⟨a3,a4,H⟩:=zn H;refine zI (u:=oB a3) X g (qk a4) (Ec B En) (Vc Vp Vn) O (jF B<|N B ?_);obtain⟨S,H⟩|⟨S,H⟩:=aa H
    ·refine Y B (cN S) (s (m:=1) O O<|Y O (cN S)<|zh (q:=1) (c:=A P.Req) B o O O<|Y O (cN S) ?_);obtain⟨a5,a6,H⟩:=zn H;refine zI (u:=oB a5) X g (QH a6) (Ec B<|Ec X<|Ec X En) (Vc Vp<|Vc Vp<|Vc Vp Vn) O (Y O (cN S)<|jF B<|zx O (cN S) B<|N B ?_);obtain⟨U,H⟩|⟨U,H⟩:=aa H
     ·refine Y B (cN U) (s (m:=2) O O<|Y O (cN U)<|zh (q:=2) (c:=A P.Answer) B o O O<|Y O (cN U) ?_);obtain⟨a7,a8,H⟩:=zn H;refine zI (u:=oB a7) X g (QH a8) (Ec B<|Ec X<|Ec X En) (Vc Vp<|Vc Vp<|Vc Vp Vn) O (Y O (cN U)<|jF B<|zx O (cN U) B<|N B ?_);obtain⟨K,H⟩|⟨K,H⟩:=aa H
      ·refine Y B (cN K) (N O<|Y O (cN K)<|zdi B X<|Y O (cN K)<|N B ?_);obtain⟨D,H⟩|⟨D,H⟩:=ab H
       ·refine Y B D (s (m:=1) O O<|Y O D<|zh (q:=1) (c:=.d (.sl 3<|F.Seats.map zg)) B (bR O) O O<|Y O D<|N O<|Y O D<|Xo B X<|Y O D ?_);obtain⟨w,a9,H⟩:=zn H;exact jh O B a9 (Y O D<|zM (m:=0) B O<|Y O D<|qp (e:=.int .i64 w.Client) B O<|Y O D<|s (m:=0) O O<|Y O D<|zh (q:=0) (c:=A P.Client) B o O O<|Y O D<|zdm O B<|Y O (cN K)<|zr O D B<|zx O (cN K) B<|zt<|L ⟨decide (P.Client≤w.Client),H,zk [320] (sR O O) (q O)<|bkR O O O⟩)
       exact Z B D O (Z O D O<|Z O D O<|Z O D O<|Z O D O<|Z O D O<|Z O D O<|Z O D O<|Z O D O<|Z O D O<|Y O (cN K)<|zx O D X<|zx O (cN K) B<|zt<|L ⟨false,H,zk [320] (sR O O) (q O)<|bkR O O O⟩)
      exact Z B (cN K) O (Z O (cN K) O<|Z O (cN K) O<|zB B O<|zB O O<|zB O O<|zB O O<|zB O O<|zB O O<|zB O O<|zB O O<|zB O O<|zB O O<|Z O (cN K) O<|zr O (cN K) X<|zt<|L ⟨true,H,zk [320] (sR O O) (q O)<|bkR O O O⟩)
     exact Z B (cN U) O (Z O (cN U) O<|Z O (cN U) O<|Z O (cN U) O<|zr O (cN U) X<|N B<|Z B O O<|Z O O O<|Z O O O<|zB B O<|zB O O<|zB O O<|zB O O<|zB O O<|zB O O<|zB O O<|zB O O<|zB O O<|zB O O<|Z O O O<|zr O O X<|zt<|L ⟨true,H,zk [320] (sR O O) (q O)<|bkR O O O⟩)
    exact Z B (cN S) O (Z O (cN S) O<|Z O (cN S) O<|Z O (cN S) O<|zr O (cN S) X<|N B<|Z B O O<|Z O O O<|Z O O O<|Z O O O<|zr O O X<|N B<|Z B O O<|Z O O O<|Z O O O<|zB B O<|zB O O<|zB O O<|zB O O<|zB O O<|zB O O<|zB O O<|zB O O<|zB O O<|zB O O<|Z O O O<|zr O O X<|zt<|L ⟨true,H,zk [320] (sR O O) (q O)<|bkR O O O⟩)
   exact zi B h (ax<|ap<|ap<|aE<|L ⟨(),H,zk [64] Q (q O) I⟩)
  refine j (N X<|d<|p<|aw (fun a:Int=>mk [(1,.one<|.ptr<|.nm 64 0 0),(3,oI a)] [(64,.vars 2<|qf F)] noG) H (zk [] (sR O O) (q O)<|bkR O O O) ?_);intro x a H;refine aS (j<|N O<|s (m:=0) O O<|zh (q:=0) (c:=.d (.sl 2<|F.Cells.map ze)) B o O O<|qc B (n:=F.Cells.length) lm<|jM O B<|d ?_);obtain⟨k,H⟩|⟨k,H⟩:=zy H
  ·refine zj B (dT k) (R<|L<|aS<|p<|zX (fun f:Bool=>(jU x a) f=some r) (fun f=>mk [(1,.one<|.ptr<|.nm 64 0 0),(3,oI a),(60,oB f)] [(64,.vars 2<|qf F)] noG) ?_ ?_)
   ·intro f H;obtain⟨l,H⟩|⟨l,H⟩:=zy H
    ·refine zj O l (j<|N X<|d<|J<|u<|T<|T<|u<|T ?_);cases H;exact eE O O
    exact zi O (nt l) (R<|az<|L<|aR<|N O<|qm B X<|N B<|zt<|L ⟨ai a,H,zk [] (sR O O) (q O)<|bkR O O O⟩)
   refine aF (s (m:=0) O O<|zh (q:=0) (c:=.d (.sl 2<|F.Cells.map ze)) B o O O<|N O ?_);obtain⟨ad,ae,H⟩:=zn H;refine jh O B ae (zM (m:=0) B O<|qp (e:=.int .i64 ad.Key) B O ?_);obtain⟨af,ag,H⟩:=zn H;refine zI (u:=oB af) X g (qk ag) (Ec B En) (Vc Vp Vn) O (jF B<|N B ?_);obtain⟨E,H⟩|⟨E,H⟩:=zy H
   ·refine Y B (cN E) (s (m:=0) O O<|Y O (cN E)<|zh (q:=0) (c:=.d (.sl 2<|F.Cells.map ze)) B o O O<|Y O (cN E)<|N O<|Y O (cN E) ?_);obtain⟨ah,aj,H⟩:=zn H;refine jh O B aj (Y O (cN E)<|zM (m:=1) B O<|Y O (cN E)<|qp (e:=.int .i64 ah.Value) B O<|Y O (cN E) ?_);obtain⟨ak,al,H⟩:=zn H;refine zI (u:=oB ak) X g (qk al) (Ec B En) (Vc Vp Vn) O (Y O (cN E)<|jF B<|zx O (cN E) B<|N B ?_);obtain⟨M,H⟩|⟨M,H⟩:=zy H
    ·refine Y B (cN M) (N O<|Y O (cN M)<|zdi B X<|Y O (cN M)<|N B ?_);obtain⟨C,H⟩|⟨C,H⟩:=zy H
     ·refine Y B (dT C) (s (m:=0) O O<|Y O (dT C)<|zh (q:=0) (c:=.d (.sl 2<|F.Cells.map ze)) B o O O<|Y O (dT C)<|N O<|Y O (dT C)<|Xo B X<|Y O (dT C) ?_);obtain⟨y,am,H⟩:=zn H;refine jh O B am (Y O (dT C)<|zM (m:=0) B O<|Y O (dT C)<|qp (e:=.int .i64 y.Key) B O<|Y O (dT C)<|s (m:=0) O O<|Y O (dT C)<|zh (q:=0) (c:=.d (.sl 2<|F.Cells.map ze)) B o O O<|Y O (dT C)<|N O<|Y O (dT C) ?_);obtain⟨z,an,H⟩:=zn H;exact jh O B an (Y O (dT C)<|zM (m:=0) B O<|Y O (dT C)<|qp (e:=.int .i64 z.Key) B O<|Y O (dT C)<|zdm O B<|Y O (cN M)<|zr O (dT C) B<|zx O (cN M) B<|zt<|L ⟨decide (z.Key≤y.Key),H,zk [] (sR O O) (q O)<|bkR O O O⟩)
     exact Z B (dF C) O (Z O (dF C) O<|Z O (dF C) O<|Z O (dF C) O<|Z O (dF C) O<|Z O (dF C) O<|Z O (dF C) O<|Z O (dF C) O<|Z O (dF C) O<|Z O (dF C) O<|Z O (dF C) O<|Z O (dF C) O<|Z O (dF C) O<|Z O (dF C) O<|Y O (cN M)<|zx O (dF C) X<|zx O (cN M) B<|zt<|L ⟨false,H,zk [] (sR O O) (q O)<|bkR O O O⟩)
    exact Z B (cN<|nt M) O (Z O (cN<|nt M) O<|Z O (cN<|nt M) O<|zB B O<|zB O O<|zB O O<|zB O O<|zB O O<|zB O O<|zB O O<|zB O O<|zB O O<|zB O O<|zB O O<|zB O O<|zB O O<|zB O O<|Z O (cN<|nt M) O<|zr O (cN<|nt M) X<|zt<|L ⟨true,H,zk [] (sR O O) (q O)<|bkR O O O⟩)
   exact Z B (cN<|nt E) O (Z O (cN<|nt E) O<|Z O (cN<|nt E) O<|Z O (cN<|nt E) O<|Z O (cN<|nt E) O<|Z O (cN<|nt E) O<|Z O (cN<|nt E) O<|Z O (cN<|nt E) O<|zr O (cN<|nt E) X<|N B<|Z B O O<|Z O O O<|Z O O O<|zB B O<|zB O O<|zB O O<|zB O O<|zB O O<|zB O O<|zB O O<|zB O O<|zB O O<|zB O O<|zB O O<|zB O O<|zB O O<|zB O O<|Z O O O<|zr O O X<|zt<|L ⟨true,H,zk [] (sR O O) (q O)<|bkR O O O⟩)
  exact zi B (dF k) (ax<|ap<|ap<|aE<|L ⟨(),H,zk [] (sR O O) (q O)<|bkR O O O⟩)
 refine aR (s (m:=0) O O<|zh (q:=0) (c:=.d (.sl 2<|F.Cells.map ze)) B o O O<|qc B (n:=F.Cells.length) lm<|zdi B X<|N B ?_);obtain⟨V,H⟩|⟨V,H⟩:=zy H
 ·exact Z B (dT V) O (Z O (dT V) O<|Z O (dT V) O<|Z O (dT V) O<|zr O (dT V) X<|zt<|L ⟨true,H,zk [] (sR O O) (q O)<|bkR O O O⟩)
 exact Y B (dF V) (s (m:=1) O O<|Y O (dF V)<|zh (q:=1) (c:=.d (.sl 3<|F.Seats.map zg)) B o O O<|Y O (dF V)<|qc B (n:=F.Seats.length) lm<|Y O (dF V)<|zdi B X<|zx O (dF V) B<|zt<|L ⟨decide (10 < (F.Seats.length:Int)),H,zk [] (sR O O) (q O)<|bkR O O O⟩)
theorem zeg{C:ji}{r:Bool}(H:Yp C=some r):Fn Tryz.prog 155 (lent [.agg (XR C)]) true [.bool r]:=by
 refine ac zze O (G (zk [] (kv 0 (.agg [A C.Kind,A C.Key,A C.Value]) O O Q) W I)<|j<|qS (n:=64) (m:=3) (cs:=[A C.Kind,A C.Key,A C.Value]) O B O O nZ<|N X<|d<|aS<|j<|s (m:=0) O O<|zh (q:=0) (c:=A C.Kind) B o O O<|d<|p<|zX (fun S:Bool=>(Jw C) S=some r) (fun S=>mk [(1,.one<|.ptr<|.nm 64 0 0),(4,oI C.Kind),(5,oB S)] [(64,.vars 3 [A C.Kind,A C.Key,A C.Value])] noG) ?_ ?_)
 ·intro S H;obtain⟨U,H⟩|⟨U,H⟩:=aa H
  ·refine zj O U (j<|s (m:=1) B O<|zh (q:=1) (c:=A C.Key) B o O O ?_);obtain⟨b,e,H⟩:=zn H;refine zI (u:=oB b) X g (qk e) (Ec B En) (Vc Vp Vn) O (N B ?_);obtain⟨E,H⟩|⟨E,H⟩:=aa H
   ·refine Y B E (s (m:=2) O O<|Y O E<|zh (q:=2) (c:=A C.Value) B o O O<|Y O E ?_);obtain⟨f,h,H⟩:=zn H;refine zI (u:=oB f) X g (qk h) (Ec B En) (Vc Vp Vn) O (zr O E B<|N B<|d<|J<|u<|T ?_);cases H;exact eE O O
   refine Z B E O (Z O E O<|Z O E O<|zx O E X<|N B<|d<|J<|u<|T ?_);cases H;exact eE O O
  refine zi O U (zX (fun F:Bool=>(QX C) F=some r) (fun F=>mk [(1,.one<|.ptr<|.nm 64 0 0),(16,oB F)] [(64,.vars 3 [A C.Kind,A C.Key,A C.Value])] noG) ?_ ?_)
  ·intro F H;obtain⟨K,H⟩|⟨K,H⟩:=zy H
   ·refine zj O K (j<|s (m:=1) B O<|zh (q:=1) (c:=A C.Key) B o O O ?_);obtain⟨V,a,H⟩:=zn H;refine zI (u:=oB V) X g (qk a) (Ec B En) (Vc Vp Vn) O (N B ?_);obtain⟨D,H⟩|⟨D,H⟩:=zy H
    ·refine Y B D (s (m:=2) O O<|Y O D<|zh (q:=2) (c:=A C.Value) B o O O<|Y O D<|jE B X<|zr O D B<|N B<|d<|J<|u<|T ?_);cases H;exact eE O O
    refine Z B (nt D) O (Z O (nt D) O<|Z O (nt D) O<|zx O (nt D) X<|N B<|d<|J<|u<|T ?_);cases H;exact eE O O
   refine zi O (nt K) (R<|az<|L<|j<|N X<|d<|J ?_);cases H;exact eE O O
  refine j (jE O X<|N B<|d ?_);obtain⟨M,H⟩|⟨M,H⟩:=zy H
  ·exact zj B (dT M) (R<|L ⟨decide (C.Kind=1),H,zk [] (sR O O) (q O)<|bkR O O O⟩)
  exact zi B (dF M) (aR<|jE O X<|N B<|zt<|L ⟨decide (C.Kind=4),H,zk [] (sR O O) (q O)<|bkR O O O⟩)
 refine j (jE B X<|N B<|d ?_);obtain⟨P,H⟩|⟨P,H⟩:=zy H
 ·exact zj B (dT P) (R<|L ⟨decide (C.Kind=2),H,zk [] (sR O O) (q O)<|bkR O O O⟩)
 exact zi B (dF P) (aR<|jE O X<|N B<|zt<|L ⟨decide (C.Kind=3),H,zk [] (sR O O) (q O)<|bkR O O O⟩)
theorem zcF{C:zA}{r:Bool}(H:QQ C=some r):Fn Tryz.prog 271 (lent [.agg (zf C)]) true [.bool r]:=by
 refine ac zzl O (G (zk [] (kv 0 (.agg<|qg C) O O Q) W I)<|j<|qS (n:=64) (m:=5) (cs:=qg C) O B O O nZ<|N X<|d<|j<|s (m:=0) O O<|zh (q:=0) (c:=A C.Client) B o O O ?_);obtain⟨F,K,H⟩:=zn H;refine zI (u:=oB F) X g (qk K) (Ec B En) (Vc Vp Vn) O (N B ?_);obtain⟨D,H⟩|⟨D,H⟩:=aa H
 ·refine Y B D (s (m:=1) O O<|Y O D<|zh (q:=1) (c:=A C.Req) B o O O<|Y O D ?_);obtain⟨L,M,H⟩:=zn H;refine zI (u:=oB L) X g (QH M) (Ec B<|Ec X<|Ec X En) (Vc Vp<|Vc Vp<|Vc Vp Vn) O (zr O D B<|N B ?_);obtain⟨E,H⟩|⟨E,H⟩:=aa H
  ·refine Y B E (s (m:=2) O O<|Y O E<|zJ (es:=[A C.Cmd.Kind,A C.Cmd.Key,A C.Cmd.Value]) B o O<|Y O E ?_);obtain⟨P,R,H⟩:=zn H;refine zI (u:=oB P) X g (zeg R) (Ec B En) (Vc (am O) Vn) O (zr O E B<|N B<|d<|G (zk [64] (kr 2 O O Q) (q O) I)<|J ?_);cases H;exact eE O O
  refine Z B E O (Z O E O<|Z O E O<|zx O E X<|N B<|d<|G (zk [64] (kr 2 O O Q) (q O) I)<|J ?_);cases H;exact eE O O
 refine Z B D O (Z O D O<|Z O D O<|zx O D X<|N B<|Z B O O<|Z O O O<|Z O O O<|zx O O X<|N B<|d<|G (zk [64] (kr 2 O O Q) (q O) I)<|J ?_);cases H;exact eE O O
theorem Xc{F:z4}{r:Bool}(H:ZN F=some r):Fn Tryz.prog 173 (lent [.agg (j7 F)]) true [.bool r]:=by
 refine ac zz6 O (G (zk [] (kv 0 (.agg<|jb F) O O Q) W I)<|j<|qS (n:=64) (m:=4) (cs:=jb F) O B O O nZ<|N X<|d<|aS<|zX (fun P:Bool=>(y6 F) P=some r) (fun P=>mk [(1,.one<|.ptr<|.nm 64 0 0),(29,oB P)] [(64,.vars 4<|jb F)] noG) ?_ ?_)
 ·intro P H;obtain⟨S,H⟩|⟨S,H⟩:=aa H
  ·refine zj O S (j<|N X<|d<|J<|T ?_);cases H;exact eE O O
  refine zi O S (R<|L<|zX (fun U:Unit=>JF U=some r) (fun U=>mk [] [] noG) ?_ ?_)
  ·intro U H;refine j (N X<|d<|J ?_);cases H;exact eE O O
  refine j (N X<|d<|p<|aw (fun V:Int=>mk [(1,.one<|.ptr<|.nm 64 0 0),(3,oI V)] [(64,.vars 4<|jb F)] noG) H (zk [] (sR O O) (q O)<|bkR O O O) ?_);intro w V H;refine aS (j<|N O<|s (m:=3) O O<|zh (q:=3) (c:=.d (.sl 5<|F.Entries.map zf)) B o O O<|qc B (n:=F.Entries.length) lm<|jM O B<|d ?_);obtain⟨a,H⟩|⟨a,H⟩:=ab H
  ·refine zj B a (R<|L<|aS<|p<|j<|s (m:=3) O O<|zh (q:=3) (c:=.d (.sl 5<|F.Entries.map zf)) B o O O<|N O ?_);obtain⟨b,e,H⟩:=zn H;refine jh O B e (qz (es:=qg b) B O ?_);obtain⟨f,h,H⟩:=zn H;refine zI (u:=oB f) X g (zcF h) (Ec B En) (Vc (am O) Vn) O (jF B<|d ?_);obtain⟨K,H⟩|⟨K,H⟩:=aa H
   ·exact zi B (cN K) (R<|az<|L<|aR<|N O<|qm B X<|N B<|zt<|L ⟨ai V,H,zk [] (sR O O) (q O)<|bkR O O O⟩)
   refine zj B (cN K) (j<|N X<|d<|J<|u<|T<|T<|u<|T ?_);cases H;exact eE O O
  exact zi B a (ax<|ap<|ap<|aE<|L ⟨(),H,zk [64] Q (q O) I⟩)
 refine aR (s (m:=0) O O<|zh (q:=0) (c:=A F.Base) B o O O ?_);obtain⟨i,k,H⟩:=zn H;refine zI (u:=oB i) X g (qk k) (Ec B En) (Vc Vp Vn) O (jF B<|N B ?_);obtain⟨D,H⟩|⟨D,H⟩:=zy H
 ·refine Y B (cN D) (s (m:=1) O O<|Y O (cN D)<|zJ (es:=[.d (.sl 2<|F.Image.Cells.map ze),.d<|.sl 3<|F.Image.Seats.map zg]) B o O<|Y O (cN D) ?_);obtain⟨l,t,H⟩:=zn H;refine zI (u:=oB l) X g (zb4 t) (Ec B En) (Vc (am O) Vn) O (Y O (cN D)<|jF B<|zx O (cN D) B<|N B ?_);obtain⟨E,H⟩|⟨E,H⟩:=zy H
  ·refine Y B (cN E) (s (m:=3) O O<|Y O (cN E)<|zh (q:=3) (c:=.d (.sl 5<|F.Entries.map zf)) B o O O<|Y O (cN E)<|qc B (n:=F.Entries.length) lm<|Y O (cN E)<|zdi B X<|zx O (cN E) B<|N B ?_);obtain⟨C,H⟩|⟨C,H⟩:=zy H
   ·exact Z B (dT C) O (Z O (dT C) O<|Z O (dT C) O<|Z O (dT C) O<|Z O (dT C) O<|Z O (dT C) O<|Z O (dT C) O<|Z O (dT C) O<|zr O (dT C) X<|zt<|L ⟨true,H,zk [] (sR O O) (q O)<|bkR O O O⟩)
   refine Y B (dF C) (s (m:=0) O O<|Y O (dF C)<|zh (q:=0) (c:=A F.Base) B o O O<|Y O (dF C)<|s (m:=3) O O<|Y O (dF C)<|zh (q:=3) (c:=.d (.sl 5<|F.Entries.map zf)) B o O O<|Y O (dF C)<|qc B (n:=F.Entries.length) lm<|Y O (dF C)<|qm O B<|Y O (dF C) ?_);obtain⟨M,v,H⟩:=zn H;exact zI (u:=oB M) X g (qk v) (Ec B En) (Vc Vp Vn) O (Y O (dF C)<|jF B<|zx O (dF C) B<|zt<|L ⟨!M,H,zk [] (sR O O) (q O)<|bkR O O O⟩)
  exact Z B (cN<|nt E) O (Z O (cN<|nt E) O<|Z O (cN<|nt E) O<|Z O (cN<|nt E) O<|zr O (cN<|nt E) X<|N B<|Z B O O<|Z O O O<|Z O O O<|Z O O O<|Z O O O<|Z O O O<|Z O O O<|Z O O O<|zr O O X<|zt<|L ⟨true,H,zk [] (sR O O) (q O)<|bkR O O O⟩)
 exact Z B (cN<|nt D) O (Z O (cN<|nt D) O<|Z O (cN<|nt D) O<|Z O (cN<|nt D) O<|zr O (cN<|nt D) X<|N B<|Z B O O<|Z O O O<|Z O O O<|Z O O O<|zr O O X<|N B<|Z B O O<|Z O O O<|Z O O O<|Z O O O<|Z O O O<|Z O O O<|Z O O O<|Z O O O<|zr O O X<|zt<|L ⟨true,H,zk [] (sR O O) (q O)<|bkR O O O⟩)
theorem kj{C:z4}{r:Int}(H:y8 C=some r):Fn Tryz.prog 48 (lent [.agg (j7 C)]) true [.int .i64 r]:=by
 refine ac f48 O (G (zk [] (kv 0 (.agg<|jb C) O O Q) W I)<|j<|qS (n:=64) (m:=4) (cs:=jb C) O B O O nZ<|N X<|d<|aS<|j<|zJ (es:=jb C) O o O ?_);obtain⟨E,F,H⟩:=zn H;refine zI (u:=oB E) X g (Xc F) (Ec B En) (Vc (am O) Vn) O (jF B<|d ?_);obtain⟨D,H⟩|⟨D,H⟩:=aa H
 ·refine zi B (cN D) (R<|L<|j<|s (m:=0) O O<|zh (q:=0) (c:=A C.Base) B o O O<|s (m:=3) O O<|zh (q:=3) (c:=.d (.sl 5<|C.Entries.map zf)) B o O O<|qc B (n:=C.Entries.length) lm<|qm O B<|N B<|d<|J ?_);cases H;exact eE O O
 refine zj B (cN D) (j<|N X<|d<|J<|T ?_);cases H;exact eE O O
theorem zad{D:z4}{E:Int}{r:Bool}(H:Jj D E=some r):Fn Tryz.prog 170 (lent [.agg (j7 D),.int .i64 E]) true [.bool r]:=by
 refine ac zzJ O (G (zk [] (kv 0 (.agg<|jb D) O O<|kv 1 (oI E) O O Q) W I)<|j<|qS (n:=128) (m:=4) (cs:=jb D) O B O O nZ<|N X<|d<|aS<|aF<|zJ (es:=jb D) O o O ?_);obtain⟨F,K,H⟩:=zn H;refine zI (u:=oB F) X g (Xc K) (Ec B En) (Vc (am O) Vn) O (N B ?_);obtain⟨C,H⟩|⟨C,H⟩:=aa H
 ·refine Y B C (N O<|Y O C<|s (m:=0) O O<|Y O C<|zh (q:=0) (c:=A D.Base) B (hB O o) O O<|Y O C<|zJ (es:=jb D) O o O<|Y O C ?_);obtain⟨L,M,H⟩:=zn H;refine zI (u:=oI L) X g (kj M) (Ec B En) (Vc (am O) Vn) O (Y O C ?_);obtain⟨P,R,H⟩:=zn H;refine zI (u:=oB P) X g (QH R) (Ec O<|Ec O<|Ec B En) (Vc Vp<|Vc Vp<|Vc Vp Vn) O (zr O C B<|N B<|d<|J ?_);cases H;exact eE O O
 refine Z B C O (Z O C O<|Z O C O<|Z O C O<|Z O C O<|Z O C O<|zx O C X<|N B<|d<|J ?_);cases H;exact eE O O
theorem zbo{D:zE}{U:Int}{r:Bool}(H:Z0 D U=some r):Fn Tryz.prog 171 (lent [.agg (zo D),.int .i64 U]) true [.bool r]:=by
 refine ac zzN O (G (zk [] (kv 0 (.agg<|js D) O O<|kv 1 (oI U) O O Q) W I)<|j<|qS (n:=128) (m:=10) (cs:=js D) O B O O nZ<|N X<|d<|aS<|j<|s (m:=0) O O<|zh (q:=0) (c:=A D.Kind) B o O O<|d<|p<|zX (fun V:Bool=>(jV D U) V=some r) (fun V=>mk [(1,oI U),(2,.one<|.ptr<|.nm 128 0 0),(7,oB V)] [(128,.vars 10<|js D)] noG) ?_ ?_)
 ·intro V H;obtain⟨a,H⟩|⟨a,H⟩:=aa H
  ·refine zj O a (R<|az<|L<|j<|s (m:=1) O O<|zh (q:=1) (c:=A D.From) B o O O<|N O<|Xo B X ?_);obtain⟨t,v,H⟩:=zn H;refine zI (u:=oB t) X g (QH v) (Ec O<|Ec X<|Ec B En) (Vc Vp<|Vc Vp<|Vc Vp Vn) O (N B ?_);obtain⟨K,H⟩|⟨K,H⟩:=aa H
   ·refine Y B K (s (m:=2) O O<|Y O K<|zh (q:=2) (c:=A D.View) B o O O<|Y O K ?_);obtain⟨w,b,H⟩:=zn H;refine zI (u:=oB w) X g (qk b) (Ec B En) (Vc Vp Vn) O (zr O K B<|N B ?_);obtain⟨E,H⟩|⟨E,H⟩:=aa H
    ·refine Y B E (s (m:=3) O O<|Y O E<|zh (q:=3) (c:=A D.Normal) B o O O<|Y O E ?_);obtain⟨e,f,H⟩:=zn H;refine zI (u:=oB e) X g (qk f) (Ec B En) (Vc Vp Vn) O (zr O E B<|N B ?_);obtain⟨F,H⟩|⟨F,H⟩:=aa H
     ·refine Y B F (s (m:=4) O O<|Y O F<|zh (q:=4) (c:=A D.Op) B o O O<|Y O F ?_);obtain⟨h,i,H⟩:=zn H;refine zI (u:=oB h) X g (qk i) (Ec B En) (Vc Vp Vn) O (zr O F B<|N B ?_);obtain⟨C,H⟩|⟨C,H⟩:=aa H
      ·refine Y B C (s (m:=6) O O<|Y O C<|zJ (es:=[A D.Log.Base,.d<|.sl 2<|D.Log.Image.Cells.map ze,.d<|.sl 3<|D.Log.Image.Seats.map zg,.d<|.sl 5<|D.Log.Entries.map zf]) B o O<|Y O C<|s (m:=5) O O<|Y O C<|zh (q:=5) (c:=A D.Commit) B o O O<|Y O C ?_);obtain⟨k,l,H⟩:=zn H;refine zI (u:=oB k) X g (zad l) (Ec O<|Ec B En) (Vc (am O)<|Vc Vp Vn) O (zr O C B<|N B<|d<|G (zk [128] (kr 4 O O Q) (q O) I)<|J ?_);cases H;exact eE O O
      refine Z B C O (Z O C O<|Z O C O<|Z O C O<|Z O C O<|zx O C X<|N B<|d<|G (zk [128] (kr 4 O O Q) (q O) I)<|J ?_);cases H;exact eE O O
     refine Z B F O (Z O F O<|Z O F O<|zx O F X<|N B<|Z B O O<|Z O O O<|Z O O O<|Z O O O<|Z O O O<|zx O O X<|N B<|d<|G (zk [128] (kr 4 O O Q) (q O) I)<|J ?_);cases H;exact eE O O
    refine Z B E O (Z O E O<|Z O E O<|zx O E X<|N B<|Z B O O<|Z O O O<|Z O O O<|zx O O X<|N B<|Z B O O<|Z O O O<|Z O O O<|Z O O O<|Z O O O<|zx O O X<|N B<|d<|G (zk [128] (kr 4 O O Q) (q O) I)<|J ?_);cases H;exact eE O O
   refine Z B K O (Z O K O<|Z O K O<|zx O K X<|N B<|Z B O O<|Z O O O<|Z O O O<|zx O O X<|N B<|Z B O O<|Z O O O<|Z O O O<|zx O O X<|N B<|Z B O O<|Z O O O<|Z O O O<|Z O O O<|Z O O O<|zx O O X<|N B<|d<|G (zk [128] (kr 4 O O Q) (q O) I)<|J ?_);cases H;exact eE O O
  refine zi O a (j<|N X<|d<|J<|u<|T ?_);cases H;exact eE O O
 refine j (jE B X<|N B<|d ?_);obtain⟨M,H⟩|⟨M,H⟩:=zy H
 ·exact zj B (dT M) (R<|L ⟨decide (D.Kind=3),H,zk [] (sR O O) (q O)<|bkR O O O⟩)
 refine zi B (dF M) (j<|jE O X<|N B<|d ?_);obtain⟨P,H⟩|⟨P,H⟩:=zy H
 ·exact zj B (dT P) (R<|L ⟨decide (D.Kind=5),H,zk [] (sR O O) (q O)<|bkR O O O⟩)
 refine zi B (dF P) (j<|jE O X<|N B<|d ?_);obtain⟨S,H⟩|⟨S,H⟩:=zy H
 ·exact zj B (dT S) (R<|L ⟨decide (D.Kind=6),H,zk [] (sR O O) (q O)<|bkR O O O⟩)
 exact zi B (dF S) (aR<|jE O X<|N B<|zt<|L ⟨decide (D.Kind=9),H,zk [] (sR O O) (q O)<|bkR O O O⟩)
theorem zat{D:zK}{E:zK}{r:Bool}(H:Zj D E=some r):Fn Tryz.prog 270 (lent [.agg (jK D),.agg<|jK E]) true [.bool r]:=by
 refine ac zzn O (G (zk [] (kv 0 (.agg<|qf D) O O<|kv 1 (.agg<|qf E) O O Q) W I)<|j<|qS (n:=128) (m:=2) (cs:=qf D) O B O O nZ<|qS (n:=192) (m:=2) (cs:=qf E) O O O O (nR O)<|N X<|d<|aS<|zX (fun h:Bool=>(yP D E) h=some r) (fun h=>mk [(2,.one<|.ptr<|.nm 128 0 0),(3,.one<|.ptr<|.nm 192 0 0),(22,oB h)] [(128,.vars 2<|qf D),(192,.vars 2<|qf E)] noG) ?_ ?_)
 ·intro h H;obtain⟨i,H⟩|⟨i,H⟩:=aa H
  ·refine zj O i (j<|N X<|d<|J<|T ?_);cases H;exact eE O O
  refine zi O i (R<|L<|zX (fun k:Unit=>(yT D E) k=some r) (fun k=>mk [(2,.one<|.ptr<|.nm 128 0 0),(3,.one<|.ptr<|.nm 192 0 0)] [(128,.vars 2<|qf D),(192,.vars 2<|qf E)] noG) ?_ ?_)
  ·intro k H;refine zX (fun l:Unit=>yS l=some r) (fun l=>mk [] [] noG) ?_ ?_
   ·intro l H;refine j (N X<|d<|J ?_);cases H;exact eE O O
   refine j (N X<|d<|p<|aw (fun U:Int=>mk [(2,.one<|.ptr<|.nm 128 0 0),(3,.one<|.ptr<|.nm 192 0 0),(6,oI U)] [(128,.vars 2<|qf D),(192,.vars 2<|qf E)] noG) H (zk [] (sR O O) (q O)<|bkR O O O) ?_);intro y U H;refine aS (j<|N O<|s (m:=1) O O<|zh (q:=1) (c:=.d (.sl 3<|D.Seats.map zg)) B o O O<|qc B (n:=D.Seats.length) lm<|jM O B<|d ?_);obtain⟨V,H⟩|⟨V,H⟩:=ab H
   ·refine zj B V (R<|L<|aS<|p<|aS<|aF<|s (m:=1) O O<|zh (q:=1) (c:=.d (.sl 3<|D.Seats.map zg)) B o O O<|N O ?_);obtain⟨F,t,H⟩:=zn H;refine jh O B t (qz (es:=[A F.Client,A F.Req,A F.Answer]) B O<|s (m:=1) O O<|zh (q:=1) (c:=.d (.sl 3<|E.Seats.map zg)) B (bR O) O O<|N O ?_);obtain⟨K,v,H⟩:=zn H;refine jh O B v (qz (es:=[A K.Client,A K.Req,A K.Answer]) B O<|zdt (b:=decide (F.Client=K.Client)&&(decide (F.Req=K.Req)&&(decide (F.Answer=K.Answer)&&true))) O B O O O<|d<|G (zk [] (kr 58 O O<|kr 2 O O<|kr 3 O O<|kr 6 O O Q) (q O)<|S (n:=128) O o O O<|S (n:=192) O (bR O) O O I) ?_);obtain⟨a,H⟩|⟨a,H⟩:=aa H
    ·exact zi B (cN a) (R<|az<|L<|aR<|N O<|qm B X<|N B<|zt<|L ⟨ai U,H,zk [] (sR O O) (q O)<|bkR O O O⟩)
    refine zj B (cN a) (j<|N X<|d<|J<|u<|T<|T<|u<|T ?_);cases H;exact eE O O
   exact zi B V (ax<|ap<|ap<|aE<|L ⟨(),H,zk [128,192] Q (q O) I⟩)
  refine j (N X<|d<|p<|aw (fun e:Int=>mk [(2,.one<|.ptr<|.nm 128 0 0),(3,.one<|.ptr<|.nm 192 0 0),(5,oI e)] [(128,.vars 2<|qf D),(192,.vars 2<|qf E)] noG) H (zk [] (sR O O) (q O)<|bkR O O O) ?_);intro z e H;refine aS (j<|N O<|s (m:=0) O O<|zh (q:=0) (c:=.d (.sl 2<|D.Cells.map ze)) B o O O<|qc B (n:=D.Cells.length) lm<|jM O B<|d ?_);obtain⟨f,H⟩|⟨f,H⟩:=zy H
  ·refine zj B (dT f) (R<|L<|aS<|p<|aS<|aF<|s (m:=0) O O<|zh (q:=0) (c:=.d (.sl 2<|D.Cells.map ze)) B o O O<|N O ?_);obtain⟨M,w,H⟩:=zn H;refine jh O B w (qz (es:=[A M.Key,A M.Value]) B O<|s (m:=0) O O<|zh (q:=0) (c:=.d (.sl 2<|E.Cells.map ze)) B (bR O) O O<|N O ?_);obtain⟨P,x,H⟩:=zn H;refine jh O B x (qz (es:=[A P.Key,A P.Value]) B O<|zdt (b:=decide (M.Key=P.Key)&&(decide (M.Value=P.Value)&&true)) O B O O O<|d<|G (zk [] (kr 40 O O<|kr 2 O O<|kr 3 O O<|kr 5 O O Q) (q O)<|S (n:=128) O o O O<|S (n:=192) O (bR O) O O I) ?_);obtain⟨g,H⟩|⟨g,H⟩:=zy H
   ·exact zi B (cN g) (R<|az<|L<|aR<|N O<|qm B X<|N B<|zt<|L ⟨ai e,H,zk [] (sR O O) (q O)<|bkR O O O⟩)
   refine zj B (cN<|nt g) (j<|N X<|d<|J<|u<|T<|T<|u<|T ?_);cases H;exact eE O O
  exact zi B (dF f) (ax<|ap<|ap<|aE<|L ⟨(),H,zk [] (sR O O) (q O)<|bkR O O O⟩)
 refine aR (s (m:=0) O O<|zh (q:=0) (c:=.d (.sl 2<|D.Cells.map ze)) B (bR O) O O<|qc B (n:=D.Cells.length) lm<|s (m:=0) O O<|zh (q:=0) (c:=.d (.sl 2<|E.Cells.map ze)) B o O O<|qc B (n:=E.Cells.length) lm<|qZ O B<|N B ?_);obtain⟨C,H⟩|⟨C,H⟩:=zy H
 ·exact Z B (dT C) O (Z O (dT C) O<|Z O (dT C) O<|Z O (dT C) O<|Z O (dT C) O<|Z O (dT C) O<|Z O (dT C) O<|zr O (dT C) X<|zt<|L ⟨true,H,zk [] (sR O O) (q O)<|bkR O O O⟩)
 exact Y B (dF C) (s (m:=1) O O<|Y O (dF C)<|zh (q:=1) (c:=.d (.sl 3<|D.Seats.map zg)) B (bR O) O O<|Y O (dF C)<|qc B (n:=D.Seats.length) lm<|Y O (dF C)<|s (m:=1) O O<|Y O (dF C)<|zh (q:=1) (c:=.d (.sl 3<|E.Seats.map zg)) B o O O<|Y O (dF C)<|qc B (n:=E.Seats.length) lm<|Y O (dF C)<|qZ O B<|zx O (dF C) B<|zt<|L ⟨decide (¬(D.Seats.length:Int)=(E.Seats.length:Int)),H,zk [] (sR O O) (q O)<|bkR O O O⟩)
theorem zcr{E:z4}{F:z4}{r:Bool}(H:QC E F=some r):Fn Tryz.prog 172 (lent [.agg (j7 E),.agg<|j7 F]) true [.bool r]:=by
 refine ac zzw O (G (zk [] (kv 0 (.agg<|jb E) O O<|kv 1 (.agg<|jb F) O O Q) W I)<|j<|qS (n:=128) (m:=4) (cs:=jb E) O B O O nZ<|qS (n:=192) (m:=4) (cs:=jb F) O O O O (nR O)<|N X<|d<|aS<|zX (fun a:Bool=>(yL E F) a=some r) (fun a=>mk [(2,.one<|.ptr<|.nm 128 0 0),(3,.one<|.ptr<|.nm 192 0 0),(27,oB a)] [(128,.vars 4<|jb E),(192,.vars 4<|jb F)] noG) ?_ ?_)
 ·intro a H;obtain⟨e,H⟩|⟨e,H⟩:=aa H
  ·refine zj O e (j<|N X<|d<|J<|T ?_);cases H;exact eE O O
  refine zi O e (R<|L<|zX (fun f:Unit=>ZX f=some r) (fun f=>mk [] [] noG) ?_ ?_)
  ·intro f H;refine j (N X<|d<|J ?_);cases H;exact eE O O
  refine j (N X<|d<|p<|aw (fun h:Int=>mk [(2,.one<|.ptr<|.nm 128 0 0),(3,.one<|.ptr<|.nm 192 0 0),(5,oI h)] [(128,.vars 4<|jb E),(192,.vars 4<|jb F)] noG) H (zk [] (sR O O) (q O)<|bkR O O O) ?_);intro t h H;refine aS (j<|N O<|s (m:=3) O O<|zh (q:=3) (c:=.d (.sl 5<|E.Entries.map zf)) B o O O<|qc B (n:=E.Entries.length) lm<|jM O B<|d ?_);obtain⟨P,H⟩|⟨P,H⟩:=ab H
  ·refine zj B P (R<|L<|aS<|p<|aS<|aF<|s (m:=3) O O<|zh (q:=3) (c:=.d (.sl 5<|E.Entries.map zf)) B o O O<|N O ?_);obtain⟨K,i,H⟩:=zn H;refine jh O B i (qz (es:=qg K) B O<|s (m:=3) O O<|zh (q:=3) (c:=.d (.sl 5<|F.Entries.map zf)) B (bR O) O O<|N O ?_);obtain⟨M,k,H⟩:=zn H;refine jh O B k (qz (es:=qg M) B O<|zdt (b:=decide (K.Client=M.Client)&&(decide (K.Req=M.Req)&&(decide (K.Cmd.Kind=M.Cmd.Kind)&&(decide (K.Cmd.Key=M.Cmd.Key)&&(decide (K.Cmd.Value=M.Cmd.Value)&&true))))) O B O O O<|d<|G (zk [] (kr 45 O O<|kr 2 O O<|kr 3 O O<|kr 5 O O Q) (q O)<|S (n:=128) O o O O<|S (n:=192) O (bR O) O O I) ?_);obtain⟨U,H⟩|⟨U,H⟩:=aa H
   ·exact zi B (cN U) (R<|az<|L<|aR<|N O<|qm B X<|N B<|zt<|L ⟨ai h,H,zk [] (sR O O) (q O)<|bkR O O O⟩)
   refine zj B (cN U) (j<|N X<|d<|J<|u<|T<|T<|u<|T ?_);cases H;exact eE O O
  exact zi B P (ax<|ap<|ap<|aE<|L ⟨(),H,zk [128,192] Q (q O) I⟩)
 refine aR (s (m:=0) O O<|zh (q:=0) (c:=A E.Base) B (bR O) O O<|s (m:=0) O O<|zh (q:=0) (c:=A F.Base) B o O O<|qZ O B<|N B ?_);obtain⟨C,H⟩|⟨C,H⟩:=zy H
 ·exact Z B (dT C) O (Z O (dT C) O<|Z O (dT C) O<|Z O (dT C) O<|Z O (dT C) O<|Z O (dT C) O<|Z O (dT C) O<|zr O (dT C) X<|N B<|Z B O O<|Z O O O<|Z O O O<|Z O O O<|Z O O O<|Z O O O<|zr O O X<|zt<|L ⟨true,H,zk [] (sR O O) (q O)<|bkR O O O⟩)
 refine Y B (dF C) (s (m:=3) O O<|Y O (dF C)<|zh (q:=3) (c:=.d (.sl 5<|E.Entries.map zf)) B (bR O) O O<|Y O (dF C)<|qc B (n:=E.Entries.length) lm<|Y O (dF C)<|s (m:=3) O O<|Y O (dF C)<|zh (q:=3) (c:=.d (.sl 5<|F.Entries.map zf)) B o O O<|Y O (dF C)<|qc B (n:=F.Entries.length) lm<|Y O (dF C)<|qZ O B<|zx O (dF C) B<|N B ?_);obtain⟨D,H⟩|⟨D,H⟩:=zy H
 ·exact Z B (dT D) O (Z O (dT D) O<|Z O (dT D) O<|Z O (dT D) O<|Z O (dT D) O<|Z O (dT D) O<|zr O (dT D) X<|zt<|L ⟨true,H,zk [] (sR O O) (q O)<|bkR O O O⟩)
 refine Y B (dF D) (s (m:=1) O O<|Y O (dF D)<|zJ (es:=[.d (.sl 2<|E.Image.Cells.map ze),.d<|.sl 3<|E.Image.Seats.map zg]) B (bR O) O<|Y O (dF D)<|s (m:=1) O O<|Y O (dF D)<|zJ (es:=[.d (.sl 2<|F.Image.Cells.map ze),.d<|.sl 3<|F.Image.Seats.map zg]) B o O<|Y O (dF D) ?_);obtain⟨V,l,H⟩:=zn H;exact zI (u:=oB V) X g (zat l) (Ec O<|Ec B En) (Vc (am O)<|Vc (am O) Vn) O (Y O (dF D)<|jF B<|zx O (dF D) B<|zt<|L ⟨!V,H,zk [] (sR O O) (q O)<|bkR O O O⟩)
theorem zaD{C:zu}{r:Bool}(H:Zo C=some r):Fn Tryz.prog 46 (lent [.agg (qb C)]) true [.bool r]:=by
 refine ac f46 O (G (zk [] (kv 0 (.agg<|zD C) O O Q) W I)<|j<|qS (n:=64) (m:=13) (cs:=zD C) O B O O nZ<|N X<|d<|aS<|zX (fun z:Bool=>(qH C) z=some r) (fun z=>mk [(1,.one<|.ptr<|.nm 64 0 0),(54,oB z)] [(64,.vars 13<|zD C)] noG) ?_ ?_)
 ·intro z H;obtain⟨h4,H⟩|⟨h4,H⟩:=aa H
  ·refine zj O h4 (j<|N X<|d<|J<|T ?_);cases H;exact eE O O
  refine zi O h4 (R<|L<|zX (fun t5:Unit=>ye C t5=some r) (fun t5=>mk [(1,.one<|.ptr<|.nm 64 0 0)] [(64,.vars 13<|zD C)] noG) ?_ ?_)
  ·intro t5 H;refine aS (j<|s (m:=2) B O<|zh (q:=2) (c:=A C.Mode) B o O O<|d<|p<|j<|jE B X<|N B<|d ?_);obtain⟨h7,H⟩|⟨h7,H⟩:=ab H
   ·refine zj B h7 (j<|s (m:=3) O O<|zh (q:=3) (c:=A C.View) B o O O<|s (m:=4) O O<|zh (q:=4) (c:=A C.Normal) B o O O<|jE O B<|N B ?_);obtain⟨k,H⟩|⟨k,H⟩:=ab H
    ·refine Y B k (s (m:=3) O O<|Y O k<|zh (q:=3) (c:=A C.View) B o O O<|Y O k<|s (m:=11) O O<|Y O k<|zh (q:=11) (c:=A C.Cell) B o O O<|Y O k<|jE O B<|zr O k B<|N B<|d<|G (zk [64] (kr 2 O O Q) (q O) I)<|J<|u<|T ?_);cases H;exact eE O O
    refine Z B k O (Z O k O<|Z O k O<|Z O k O<|Z O k O<|zx O k X<|N B<|d<|G (zk [64] (kr 2 O O Q) (q O) I)<|J<|u<|T ?_);cases H;exact eE O O
   refine zi B h7 (j<|jE O X<|N B<|d ?_);obtain⟨h9,H⟩|⟨h9,H⟩:=zy H
   ·refine zj B (dT h9) (j<|s (m:=4) O O<|zh (q:=4) (c:=A C.Normal) B o O O<|s (m:=3) O O<|zh (q:=3) (c:=A C.View) B o O O<|zem O B<|N B ?_);obtain⟨K,H⟩|⟨K,H⟩:=zy H
    ·refine Y B (dT K) (s (m:=3) O O<|Y O (dT K)<|zh (q:=3) (c:=A C.View) B o O O<|Y O (dT K)<|s (m:=11) O O<|Y O (dT K)<|zh (q:=11) (c:=A C.Cell) B o O O<|Y O (dT K)<|jE O B<|zr O (dT K) B<|N B<|d<|G (zk [64] (kr 2 O O Q) (q O) I)<|J<|u<|T ?_);cases H;exact eE O O
    refine Z B (dF K) O (Z O (dF K) O<|Z O (dF K) O<|Z O (dF K) O<|Z O (dF K) O<|zx O (dF K) X<|N B<|d<|G (zk [64] (kr 2 O O Q) (q O) I)<|J<|u<|T ?_);cases H;exact eE O O
   refine zi B (dF h9) (zX (fun l:Bool=>(yA C) l=some r) (fun l=>mk [(1,.one<|.ptr<|.nm 64 0 0),(101,oB l)] [(64,.vars 13<|zD C)] noG) ?_ ?_)
   ·intro l H;obtain⟨t,H⟩|⟨t,H⟩:=zy H
    ·refine zj O t (j<|s (m:=3) B O<|zh (q:=3) (c:=A C.View) B o O O<|jE B X<|N B ?_);obtain⟨h,H⟩|⟨h,H⟩:=zy H
     ·refine Y B (dT h) (s (m:=4) O O<|Y O (dT h)<|zh (q:=4) (c:=A C.Normal) B o O O<|Y O (dT h)<|jE B X<|zr O (dT h) B<|N B ?_);obtain⟨i,H⟩|⟨i,H⟩:=zy H
      ·refine Y B (dT i) (s (m:=5) O O<|Y O (dT i)<|zh (q:=5) (c:=A C.Commit) B o O O<|Y O (dT i)<|jE B X<|zr O (dT i) B<|N B ?_);obtain⟨M,H⟩|⟨M,H⟩:=zy H
       ·refine Y B (dT M) (s (m:=6) O O<|Y O (dT M)<|zJ (es:=[A C.Log.Base,.d<|.sl 2<|C.Log.Image.Cells.map ze,.d<|.sl 3<|C.Log.Image.Seats.map zg,.d<|.sl 5<|C.Log.Entries.map zf]) B o O<|Y O (dT M)<|y5 (cs:=[A 0,.zs,.zs,.zs]) ZY O<|Y O (dT M) ?_);obtain⟨a2,a3,H⟩:=zn H;refine zI (u:=oB a2) X g (bh (aU ao<|aU (bp<|ql.cons ao O<|ql.cons aP O<|ql.cons aP O<|ql.cons aP O ql.nil) bn)<|zcr a3) (Ec O<|Ec B En) (Vc (am O)<|Vc (bg<|U<|aT<|aT<|aT aN) Vn) O (zr O (dT M) B<|N B ?_);obtain⟨E,H⟩|⟨E,H⟩:=zy H
        ·refine Y B E (s (m:=2) O O<|Y O E<|zh (q:=2) (c:=A C.Mode) B o O O<|Y O E<|jE B X<|Y O E<|N B ?_);obtain⟨P,H⟩|⟨P,H⟩:=zy H
         ·refine Z B (dT P) O (Z O (dT P) O<|Z O (dT P) O<|Z O (dT P) O<|Y O E<|zr O (dT P) X<|zr O E B<|N B<|d<|G (zk [64] (kr 2 O O Q) (q O) I)<|J<|u<|T ?_);cases H;exact eE O O
         refine Y B (dF P) (s (m:=10) O O<|Y O (dF P)<|zh (q:=10) (c:=.d (.sl 10<|C.Votes.map zo)) B o O O<|Y O (dF P)<|qc B (n:=C.Votes.length) lm<|Y O (dF P)<|jE B X<|Y O E<|zx O (dF P) B<|zr O E B<|N B<|d<|G (zk [64] (kr 2 O O Q) (q O) I)<|J<|u<|T ?_);cases H;exact eE O O
        refine Z B (nt E) O (Z O (nt E) O<|Z O (nt E) O<|Z O (nt E) O<|zB B O<|zB O O<|zB O O<|zB O O<|Z O (nt E) O<|zx O (nt E) X<|N B<|d<|G (zk [64] (kr 2 O O Q) (q O) I)<|J<|u<|T ?_);cases H;exact eE O O
       refine Z B (dF M) O (Z O (dF M) O<|Z O (dF M) O<|Z O (dF M) O<|zx O (dF M) X<|N B<|Z B O O<|Z O O O<|Z O O O<|Z O O O<|zB B O<|zB O O<|zB O O<|zB O O<|Z O O O<|zx O O X<|N B<|d<|G (zk [64] (kr 2 O O Q) (q O) I)<|J<|u<|T ?_);cases H;exact eE O O
      refine Z B (dF i) O (Z O (dF i) O<|Z O (dF i) O<|zx O (dF i) X<|N B<|Z B O O<|Z O O O<|Z O O O<|Z O O O<|zx O O X<|N B<|Z B O O<|Z O O O<|Z O O O<|Z O O O<|zB B O<|zB O O<|zB O O<|zB O O<|Z O O O<|zx O O X<|N B<|d<|G (zk [64] (kr 2 O O Q) (q O) I)<|J<|u<|T ?_);cases H;exact eE O O
     refine Z B (dF h) O (Z O (dF h) O<|Z O (dF h) O<|zx O (dF h) X<|N B<|Z B O O<|Z O O O<|Z O O O<|zx O O X<|N B<|Z B O O<|Z O O O<|Z O O O<|Z O O O<|zx O O X<|N B<|Z B O O<|Z O O O<|Z O O O<|Z O O O<|zB B O<|zB O O<|zB O O<|zB O O<|Z O O O<|zx O O X<|N B<|d<|G (zk [64] (kr 2 O O Q) (q O) I)<|J<|u<|T ?_);cases H;exact eE O O
    refine zi O (nt t) (R<|az<|L<|j<|N X<|d<|J ?_);cases H;exact eE O O
   refine j (jE O X<|N B<|d ?_);obtain⟨v,H⟩|⟨v,H⟩:=zy H
   ·exact zj B (dT v) (R<|L ⟨decide (C.Mode=0),H,zk [] (sR O O) (q O)<|bkR O O O⟩)
   exact zi B (dF v) (aR<|jE O X<|N B<|zt<|L ⟨decide (C.Mode=3),H,zk [] (sR O O) (q O)<|bkR O O O⟩)
  refine j (N X<|d<|p<|aw (fun w:Int=>mk [(1,.one<|.ptr<|.nm 64 0 0),(3,oI w)] [(64,.vars 13<|zD C)] noG) H (zk [] (sR O O) (q O)<|bkR O O O) ?_);intro av w H;refine aS (j<|N O<|s (m:=10) O O<|zh (q:=10) (c:=.d (.sl 10<|C.Votes.map zo)) B o O O<|qc B (n:=C.Votes.length) lm<|jM O B<|d ?_);obtain⟨x,H⟩|⟨x,H⟩:=zy H
  ·refine zj B (dT x) (R<|L<|aS<|p<|aS<|aF<|s (m:=10) O O<|zh (q:=10) (c:=.d (.sl 10<|C.Votes.map zo)) B o O O<|N O ?_);obtain⟨a4,a5,H⟩:=zn H;refine jh O B a5 (qz (es:=js a4) B O<|s (m:=1) O O<|zh (q:=1) (c:=A C.Of) B o O O ?_);obtain⟨a6,a7,H⟩:=zn H;refine zI (u:=oB a6) X g (zbo a7) (Ec O<|Ec B En) (Vc (am O)<|Vc Vp Vn) O (jF B<|d<|G (zk [] (kr 70 O O<|kr 1 O O<|kr 3 O O Q) (q O)<|S (n:=64) O o O O I) ?_);obtain⟨y,H⟩|⟨y,H⟩:=zy H
   ·exact zi B (cN y) (R<|az<|L<|aR<|N O<|qm B X<|N B<|zt<|L ⟨ai w,H,zk [] (sR O O) (q O)<|bkR O O O⟩)
   refine zj B (cN<|nt y) (j<|N X<|d<|J<|u<|T<|T<|u<|T ?_);cases H;exact eE O O
  exact zi B (dF x) (ax<|ap<|ap<|aE<|L ⟨(),H,zk [] (sR O O) (q O)<|bkR O O O⟩)
 refine aR (s (m:=1) O O<|zh (q:=1) (c:=A C.Of) B o O O ?_);obtain⟨a8,a9,H⟩:=zn H;refine zI (u:=oB a8) X g (za2 a9) (Ec B En) (Vc Vp Vn) O (jF B<|N B ?_);obtain⟨D,H⟩|⟨D,H⟩:=zy H
 ·refine Y B (cN D) (s (m:=0) O O<|Y O (cN D)<|zh (q:=0) (c:=A C.Me) B o O O<|Y O (cN D)<|s (m:=1) O O<|Y O (cN D)<|zh (q:=1) (c:=A C.Of) B o O O<|Y O (cN D)<|Xo B X<|Y O (cN D) ?_);obtain⟨ad,ae,H⟩:=zn H;refine zI (u:=oB ad) X g (QH ae) (Ec O<|Ec X<|Ec B En) (Vc Vp<|Vc Vp<|Vc Vp Vn) O (Y O (cN D)<|jF B<|zx O (cN D) B<|N B ?_);obtain⟨V,H⟩|⟨V,H⟩:=zy H
  ·refine Y B (cN V) (s (m:=3) O O<|Y O (cN V)<|zh (q:=3) (c:=A C.View) B o O O<|Y O (cN V) ?_);obtain⟨af,ag,H⟩:=zn H;refine zI (u:=oB af) X g (qk ag) (Ec B En) (Vc Vp Vn) O (Y O (cN V)<|jF B<|zx O (cN V) B<|N B ?_);obtain⟨a,H⟩|⟨a,H⟩:=zy H
   ·refine Y B (cN a) (s (m:=4) O O<|Y O (cN a)<|zh (q:=4) (c:=A C.Normal) B o O O<|Y O (cN a) ?_);obtain⟨ah,aj,H⟩:=zn H;refine zI (u:=oB ah) X g (qk aj) (Ec B En) (Vc Vp Vn) O (Y O (cN a)<|jF B<|zx O (cN a) B<|N B ?_);obtain⟨b,H⟩|⟨b,H⟩:=zy H
    ·refine Y B (cN b) (s (m:=11) O O<|Y O (cN b)<|zh (q:=11) (c:=A C.Cell) B o O O<|Y O (cN b) ?_);obtain⟨ak,al,H⟩:=zn H;refine zI (u:=oB ak) X g (qk al) (Ec B En) (Vc Vp Vn) O (Y O (cN b)<|jF B<|zx O (cN b) B<|N B ?_);obtain⟨e,H⟩|⟨e,H⟩:=zy H
     ·refine Y B (cN e) (s (m:=12) O O<|Y O (cN e)<|zh (q:=12) (c:=A C.Nonce) B o O O<|Y O (cN e) ?_);obtain⟨an,aq,H⟩:=zn H;refine zI (u:=oB an) X g (qk aq) (Ec B En) (Vc Vp Vn) O (Y O (cN e)<|jF B<|zx O (cN e) B<|N B ?_);obtain⟨F,H⟩|⟨F,H⟩:=zy H
      ·refine Y B (cN F) (s (m:=6) O O<|Y O (cN F)<|zJ (es:=[A C.Log.Base,.d<|.sl 2<|C.Log.Image.Cells.map ze,.d<|.sl 3<|C.Log.Image.Seats.map zg,.d<|.sl 5<|C.Log.Entries.map zf]) B o O<|Y O (cN F)<|s (m:=5) O O<|Y O (cN F)<|zh (q:=5) (c:=A C.Commit) B o O O<|Y O (cN F) ?_);obtain⟨ar,au,H⟩:=zn H;refine zI (u:=oB ar) X g (zad au) (Ec O<|Ec B En) (Vc (am O)<|Vc Vp Vn) O (Y O (cN F)<|jF B<|zx O (cN F) B<|N B ?_);obtain⟨f,H⟩|⟨f,H⟩:=zy H
       ·exact Y B (cN f) (s (m:=10) O O<|Y O (cN f)<|zh (q:=10) (c:=.d (.sl 10<|C.Votes.map zo)) B o O O<|Y O (cN f)<|qc B (n:=C.Votes.length) lm<|Y O (cN f)<|zdi B X<|zx O (cN f) B<|zt<|L ⟨decide (20 < (C.Votes.length:Int)),H,zk [] (sR O O) (q O)<|bkR O O O⟩)
       exact Z B (cN<|nt f) O (Z O (cN<|nt f) O<|Z O (cN<|nt f) O<|Z O (cN<|nt f) O<|zr O (cN<|nt f) X<|zt<|L ⟨true,H,zk [] (sR O O) (q O)<|bkR O O O⟩)
      exact Z B (cN<|nt F) O (Z O (cN<|nt F) O<|Z O (cN<|nt F) O<|Z O (cN<|nt F) O<|Z O (cN<|nt F) O<|Z O (cN<|nt F) O<|zr O (cN<|nt F) X<|N B<|Z B O O<|Z O O O<|Z O O O<|Z O O O<|zr O O X<|zt<|L ⟨true,H,zk [] (sR O O) (q O)<|bkR O O O⟩)
     exact Z B (cN<|nt e) O (Z O (cN<|nt e) O<|Z O (cN<|nt e) O<|Z O (cN<|nt e) O<|zr O (cN<|nt e) X<|N B<|Z B O O<|Z O O O<|Z O O O<|Z O O O<|Z O O O<|Z O O O<|zr O O X<|N B<|Z B O O<|Z O O O<|Z O O O<|Z O O O<|zr O O X<|zt<|L ⟨true,H,zk [] (sR O O) (q O)<|bkR O O O⟩)
    exact Z B (cN<|nt b) O (Z O (cN<|nt b) O<|Z O (cN<|nt b) O<|Z O (cN<|nt b) O<|zr O (cN<|nt b) X<|N B<|Z B O O<|Z O O O<|Z O O O<|Z O O O<|zr O O X<|N B<|Z B O O<|Z O O O<|Z O O O<|Z O O O<|Z O O O<|Z O O O<|zr O O X<|N B<|Z B O O<|Z O O O<|Z O O O<|Z O O O<|zr O O X<|zt<|L ⟨true,H,zk [] (sR O O) (q O)<|bkR O O O⟩)
   exact Z B (cN<|nt a) O (Z O (cN<|nt a) O<|Z O (cN<|nt a) O<|Z O (cN<|nt a) O<|zr O (cN<|nt a) X<|N B<|Z B O O<|Z O O O<|Z O O O<|Z O O O<|zr O O X<|N B<|Z B O O<|Z O O O<|Z O O O<|Z O O O<|zr O O X<|N B<|Z B O O<|Z O O O<|Z O O O<|Z O O O<|Z O O O<|Z O O O<|zr O O X<|N B<|Z B O O<|Z O O O<|Z O O O<|Z O O O<|zr O O X<|zt<|L ⟨true,H,zk [] (sR O O) (q O)<|bkR O O O⟩)
  exact Z B (cN<|nt V) O (Z O (cN<|nt V) O<|Z O (cN<|nt V) O<|Z O (cN<|nt V) O<|zr O (cN<|nt V) X<|N B<|Z B O O<|Z O O O<|Z O O O<|Z O O O<|zr O O X<|N B<|Z B O O<|Z O O O<|Z O O O<|Z O O O<|zr O O X<|N B<|Z B O O<|Z O O O<|Z O O O<|Z O O O<|zr O O X<|N B<|Z B O O<|Z O O O<|Z O O O<|Z O O O<|Z O O O<|Z O O O<|zr O O X<|N B<|Z B O O<|Z O O O<|Z O O O<|Z O O O<|zr O O X<|zt<|L ⟨true,H,zk [] (sR O O) (q O)<|bkR O O O⟩)
 refine Z B (cN<|nt D) O (Z O (cN<|nt D) O<|Z O (cN<|nt D) O<|Z O (cN<|nt D) O<|Z O (cN<|nt D) O<|Z O (cN<|nt D) O<|Z O (cN<|nt D) O<|zr O (cN<|nt D) X<|N B<|Z B O O<|Z O O O<|Z O O O<|Z O O O<|zr O O X<|N B<|Z B O O<|Z O O O<|Z O O O<|Z O O O<|zr O O X<|N B<|Z B O O<|Z O O O<|Z O O O<|Z O O O<|zr O O X<|N B<|Z B O O<|Z O O O<|Z O O O<|Z O O O<|zr O O X<|N B<|Z B O O<|Z O O O<|Z O O O<|Z O O O<|Z O O O<|Z O O O<|zr O O X ?_);exact N B (Z B O O<|Z O O O<|Z O O O<|Z O O O<|zr O O X<|zt<|L ⟨true,H,zk [] (sR O O) (q O)<|bkR O O O⟩)
theorem kD{C:Int}{D:Int}{r:Int}(H:yx C D=some r):Fn Tryz.prog 52 (lent [.int .i64 C,.int .i64 D]) true [.int .i64 r]:=by
 refine ac f52 O (G (zk [] (kv 0 (oI C) O O<|kv 1 (oI D) O O Q) W I)<|j<|N X<|d<|aS<|zX (fun F:Bool=>(y4 D C) F=some r) (fun F=>mk [(0,oI C),(1,oI D),(12,oB F)] [] noG) ?_ ?_)
 ·intro F H;obtain⟨K,H⟩|⟨K,H⟩:=aa H
  ·refine zj O K (j<|N X<|d<|J<|T ?_);cases H;exact eE O O
  refine zi O K (R<|L<|j<|N B<|N O ?_);obtain⟨P,H⟩:=qx H;refine zrb O B P (N B<|d<|J ?_);cases H;exact eE O O
 refine aR (N O ?_);obtain⟨S,U,H⟩:=zn H;refine zI (u:=oB S) X g (qk U) (Ec B En) (Vc Vp Vn) O (jF B<|N B ?_);obtain⟨A,H⟩|⟨A,H⟩:=aa H
 ·refine Y B (cN A) (N O<|Y O (cN A) ?_);obtain⟨E,M,H⟩:=zn H;exact zI (u:=oB E) X g (za2 M) (Ec B En) (Vc Vp Vn) O (Y O (cN A)<|jF B<|zx O (cN A) B<|zt<|L ⟨!E,H,zk [] (sR O O) W I⟩)
 exact Z B (cN A) O (Z O (cN A) O<|Z O (cN A) O<|zr O (cN A) X<|zt<|L ⟨true,H,zk [] (sR O O) W I⟩)
theorem XZ{C:zu}{r:Bool}(H:Zq C=some r):Fn Tryz.prog 47 (lent [.agg (qb C)]) true [.bool r]:=by
 refine ac f47 O (G (zk [] (kv 0 (.agg<|zD C) O O Q) W I)<|j<|qS (n:=64) (m:=13) (cs:=zD C) O B O O nZ<|N X<|d<|aS<|aF<|s (m:=3) O O<|zh (q:=3) (c:=A C.View) B o O O<|s (m:=1) O O<|zh (q:=1) (c:=A C.Of) B o O O ?_);obtain⟨D,E,H⟩:=zn H;refine zI (u:=oI D) X g (kD E) (Ec O<|Ec B En) (Vc Vp<|Vc Vp Vn) O (s (m:=0) O O<|zh (q:=0) (c:=A C.Me) B (hB O o) O O<|jE O B<|N B<|d<|J ?_);cases H;exact eE O O
theorem zet{E:z4}{M:Int}{r:(zA×Bool)}(H:Yl E M=some r):Fn Tryz.prog 175 (lent [.agg (j7 E),.int .i64 M]) true [.agg (zf r.1),.bool r.2]:=by
 refine ac zzF O (G (zk [] (kv 0 (.agg<|jb E) O O<|kv 1 (oI M) O O Q) W I)<|j<|qS (n:=128) (m:=4) (cs:=jb E) O B O O nZ<|Q4 (n:=256) (m:=5) O O (nR O)<|N X<|d<|aS<|zX (fun S:Bool=>(Qd E M) S=some r) (fun S=>mk [(1,oI M),(2,.one<|.ptr<|.nm 128 0 0),(4,.one<|.ptr<|.nm 256 0 0),(20,oB S)] [(128,.vars 4<|jb E),(256,.vars 5 [A 0,A 0,A 0,A 0,A 0])] noG) ?_ ?_)
 ·intro S H;obtain⟨U,H⟩|⟨U,H⟩:=aa H
  ·refine zj O U (j<|y5 (cs:=[A 0,A 0,A 0,A 0,A 0]) ZY O<|zZ (es:=[A 0,A 0,A 0,A 0,A 0]) O B O O (bR O) O<|N X<|d<|J<|T ?_);cases H;exact jO (av (jL (es:=[A 0,A 0,A 0,A 0,A 0]) O o O) (bl (ds:=[.int .i64 0,.int .i64 0,.int .i64 0,.int .i64 0,.int .i64 0]) O O)<|av (aH B) (K O) ay) List.nodup_nil
  refine zi O U (R<|L<|j<|s (m:=3) O O<|zh (q:=3) (c:=.d (.sl 5<|E.Entries.map zf)) B o O O<|N O<|s (m:=0) O O<|zh (q:=0) (c:=A E.Base) B o O O<|Xo O B<|Xo B X ?_);obtain⟨F,a,H⟩:=zn H;refine jh O B a (qz (es:=qg F) B O<|zZ (es:=qg F) O B O O (bR O) O<|N X<|d<|J ?_);cases H;exact jO (av (jL (es:=qg F) O o O) (bl (ds:=[.int .i64 F.Client,.int .i64 F.Req,.int .i64 F.Cmd.Kind,.int .i64 F.Cmd.Key,.int .i64 F.Cmd.Value]) O O)<|av (aH B) (K O) ay) List.nodup_nil
 refine aR (zJ (es:=jb E) O (bR O) O ?_);obtain⟨b,e,H⟩:=zn H;refine zI (u:=oB b) X g (Xc e) (Ec B En) (Vc (am O) Vn) O (jF B<|N B ?_);obtain⟨C,H⟩|⟨C,H⟩:=aa H
 ·refine Y B (cN C) (N O<|Y O (cN C)<|s (m:=0) O O<|Y O (cN C)<|zh (q:=0) (c:=A E.Base) B (bR O) O O<|Y O (cN C)<|zem O B<|zx O (cN C) B<|N B ?_);obtain⟨D,H⟩|⟨D,H⟩:=ab H
  ·exact Z B D O (Z O D O<|Z O D O<|Z O D O<|zr O D X<|zt<|L ⟨true,H,zk [] (sR O O) (q O)<|bkR O O O⟩)
  refine Y B D (N O<|Y O D<|zJ (es:=jb E) O (bR O) O<|Y O D ?_);obtain⟨P,V,H⟩:=zn H;exact zI (u:=oI P) X g (kj V) (Ec B En) (Vc (am O) Vn) O (Y O D<|zdi O B<|zx O D B<|zt<|L ⟨decide (P < M),H,zk [] (sR O O) (q O)<|bkR O O O⟩)
 exact Z B (cN C) O (Z O (cN C) O<|Z O (cN C) O<|Z O (cN C) O<|zr O (cN C) X<|N B<|Z B O O<|Z O O O<|Z O O O<|Z O O O<|zr O O X<|zt<|L ⟨true,H,zk [] (sR O O) (q O)<|bkR O O O⟩)
end Go.AW
