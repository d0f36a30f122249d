/- That functions of the program compute what the plain functions say. Conditions: each theorem's own. -/
import Derived.Test.YtpabbbmfcgnhdaaGreatMShardRead
import Derived.Test.YtpabbbmfcgnhdaaGreatGShardRead
import Derived.Test.YtpabbbmfcgnhdaaGreatYo
import Derived.Test.YtpabbbmfcgnhdaaGreatSShardRead
import Derived.Test.YtpabbbmfcgnhdaaGreatYt
import Derived.KernelRfl
set_option linter.unusedVariables false
set_option linter.unusedSimpArgs false
set_option maxRecDepth 100000
namespace Go.AW
open Go.Proofs
theorem aa{β:Type}{b:Bool}{x y:Option β}{r:β}(H:(if b=true then x else y)=some r):(b=true∧x=some r)∨(b=false∧y=some r):=(zB H).imp id fun h=>⟨nt h.1,h.2⟩
theorem ab{β:Type}{c:Prop}[Decidable c]{x y:Option β}{r:β}(H:(if c then x else y)=some r):(decide c=true∧x=some r)∨(decide c=false∧y=some r):=(zB H).imp (fun h=>⟨dT h.1,h.2⟩) fun h=>⟨dF h.1,h.2⟩
theorem ac{P:Program}{n:Nat}{ic:IC}{ts:List Yu}{f:FuncId}{ds rs:List D}(F:FI P n ic ts f)(e:Nat.ble ds.length n=true)(h:AW P n ic (znc ts rs) (mk (ze5 0 ds) []<|K9 ds)):Fn P f (lent ds) true rs:=F (fle e) (zA ds▸h)
theorem ae{P:Program}{n:Nat}{ic:IC}{ts:List Yu}{f:FuncId}{ds rs:List D}(F:FB P n ic ts f)(e:Nat.ble ds.length n=true)(h:AW P n ic (zli ts rs) (mk (ze5 0 ds) []<|K9 ds)):Fn P f (lent ds) false rs:=F (fle e) (zA ds▸h)
theorem af{n off a b:Nat}(e:a=b:=by first|(simp;done)|(simp;omega)|omega|(simp only[List.length_map];omega)):CWk (.sl n off a) (.sl n off b):=CWk.len e
abbrev ah(a b c d e f g:Nat)(x:zt):List C:=[dI x.Me,.sl a 0 x.Own.length,.sl b 0 x.Frozen.length,.sl c 0 x.Cells.length,.sl d 0 x.Locks.length,.sl e 0 x.Helds.length,.sl f 0 x.Wounded.length,.sl g 0 x.Ended.length,dI x.Rank]
abbrev ai{α:Type}(n:Nat)(x:List α):C:=.sl n 0 x.length
theorem aj{ns:List Nat}{k:Nat}{v:V}(v':V){r r':List (Nat×V)}(A:v.er ns=v')(B:erL ns r r'):erL ns ((k,v)::r) ((k,v')::r'):=erL.cons A B
theorem ak{ns:List Nat}{k:Nat}{v:Blk}(v':Blk){r r':List (Nat×Blk)}(A:ns.contains k=false)(B:v.er ns=v')(C:erH ns r r'):erH ns ((k,v)::r) ((k,v')::r'):=erH.cons A B C
abbrev A:=@eZ
abbrev B:=@AW.weaken
abbrev E:=@BK.nil
abbrev G:=@TQ.qn
abbrev I:=@BK.cons
abbrev J:=@za
abbrev K:=@AW.ret
abbrev L:=@BL.nil
abbrev N:=@SL.nil
abbrev Q:=@AW.skip
abbrev R:=@Cl.fn
abbrev S:=@eC
abbrev T:=@gDo
abbrev U:=@AW.block
abbrev W:=@TQ.qr
abbrev X:=@VOs.cons
abbrev Y:=@xQ
abbrev Z:=@dI
abbrev j:=@aV
abbrev l:=@zb
abbrev m:=@GK.nil
abbrev o:=@blR
abbrev p:=@RL.cons
abbrev q:=@VD.agg
abbrev s:=@bR
abbrev t:=@TQ.qe
abbrev u:=@cN
abbrev w:=@RV.tmp
abbrev z:=@ze
abbrev am:=@VO.flat
abbrev ao:=@VO.sl
abbrev aq:=@CDs.plain
abbrev ar:=@AW.exit
abbrev au:=@AW.iter
abbrev av:=@BQ.qr
abbrev aw:=@erL.nil
abbrev ax:=@SL.cons
abbrev ay:=@VWk.one
abbrev aA:=@RL.nil
abbrev aB:=@BQ.qn
abbrev aC:=@BQ.qe
abbrev aD:=@erH.nil
abbrev aE:=@erH.drop
abbrev aF:=@AW.regd
abbrev aG:=@GK.cons
abbrev aH:=@CDs.sl
abbrev aI:=@PDs.cons
abbrev aJ:=@QD.cons
abbrev aK:=@CWk.len
abbrev aL:=@SZ.cons
abbrev aM:=@ML.lent
abbrev aN:=@CDs.nil
abbrev aO:=@AO.lent
abbrev aP:=@VOs.nil
abbrev aQ:=@VO.zs
abbrev aT:=@RB.cons
abbrev aU:=@PDs.nil
abbrev aW:=@SZ.nil
abbrev aX:=@AO.nil
abbrev aY:=@GR.nil
abbrev aZ:=@El.lent
abbrev a8:=@CWk.fn
abbrev ba:=@RdI.rfl
abbrev bb:=@CWk.rfl
abbrev bc:=@CWk.ptr
abbrev bf:=@ML.nil
abbrev bg:=@VO.aggs
abbrev bh:=@VD.fn
abbrev bi:=@RdI.zs
abbrev bj:=@AO.mut
abbrev bl:=@VD.sl
abbrev bn:=@VO.agg
abbrev bo:=@ML.mut
abbrev bp:=@El.one
abbrev bq:=@AO.give
abbrev bt:=@VD.aggs
abbrev bv:=@RB.nil
abbrev bw:=@ML.give
abbrev bz:=@CDs.zs
abbrev bA:=@AW.condU
abbrev bB:=@AW.regt
abbrev bC:=@Wk.trans
theorem zcm{C:List zm}{D:Int}{r:Int}(H:Qc C D=some r):Fn Tryz.prog 73 (lent [.sl 2 (C.map zd),.int .i64 D]) true [.int .i64 r]:=by
 refine ac f73 O (B (z [] (kv 0 (.one<|.d<|.sl 2<|C.map zd) O O<|kv 1 (oI D) O O N) L E)<|j<|J S<|Y<|j<|J O<|J O<|zY A (n:=C.length) lm<|zbR O A<|J A<|Y<|aS<|j<|J A<|qj A S<|Y ?_);obtain⟨F,H⟩|⟨F,H⟩:=ab H
 ·refine zh A F (j<|J S<|Y<|K<|W ?_);cases H;exact eE O O
 refine zg A F (Q<|G<|j<|J O<|J A<|Y<|K ?_);cases H;exact eE O O
theorem zg4{C:List zr}{D:Int}{r:Int}(H:Yx C D=some r):Fn Tryz.prog 74 (lent [.sl 2 (C.map zi),.int .i64 D]) true [.int .i64 r]:=by
 refine ac f74 O (B (z [] (kv 0 (.one<|.d<|.sl 2<|C.map zi) O O<|kv 1 (oI D) O O N) L E)<|j<|J S<|Y<|j<|J O<|J O<|zY A (n:=C.length) lm<|zbR O A<|J A<|Y<|aS<|j<|J A<|qj A S<|Y ?_);obtain⟨F,H⟩|⟨F,H⟩:=ab H
 ·refine zh A F (j<|J S<|Y<|K<|W ?_);cases H;exact eE O O
 refine zg A F (Q<|G<|j<|J O<|J A<|Y<|K ?_);cases H;exact eE O O
theorem zhu{C:List zu}{D:Int}{r:Int}(H:YJ C D=some r):Fn Tryz.prog 75 (lent [.sl 4 (C.map zk),.int .i64 D]) true [.int .i64 r]:=by
 refine ac f75 O (B (z [] (kv 0 (.one<|.d<|.sl 4<|C.map zk) O O<|kv 1 (oI D) O O N) L E)<|j<|J S<|Y<|j<|J O<|J O<|zY A (n:=C.length) lm<|zbR O A<|J A<|Y<|aS<|j<|J A<|qj A S<|Y ?_);obtain⟨F,H⟩|⟨F,H⟩:=ab H
 ·refine zh A F (j<|J S<|Y<|K<|W ?_);cases H;exact eE O O
 refine zg A F (Q<|G<|j<|J O<|J A<|Y<|K ?_);cases H;exact eE O O
theorem zgd{C:List zr}{D:Int}{r:Int}(H:JX C D=some r):Fn Tryz.prog 282 (lent [.sl 2 (C.map zi),.int .i64 D]) true [.int .i64 r]:=by
 refine ac zLf O (B (z [] (kv 0 (.one<|.d<|.sl 2<|C.map zi) O O<|kv 1 (oI D) O O N) L E)<|j<|J S<|Y<|j<|J O<|J O<|zY A (n:=C.length) lm<|zbR O A<|J A<|Y<|aS<|j<|J A<|qj A S<|Y ?_);obtain⟨F,H⟩|⟨F,H⟩:=ab H
 ·refine zh A F (j<|J S<|Y<|K<|W ?_);cases H;exact eE O O
 refine zg A F (Q<|G<|j<|J O<|J A<|Y<|K ?_);cases H;exact eE O O
theorem zhZ{C:zP}{D:Int}{r:Int}(H:ka C D=some r):Fn Tryz.prog 195 (lent [.agg (zx C),.int .i64 D]) true [.int .i64 r]:=by
 refine ac zLn O (B (z [] (kv 0 (.agg<|j6 C) O O<|kv 1 (oI D) O O N) L E)<|j<|jb (n:=128) (m:=2) (cs:=j6 C) O A O O nZ<|J S<|Y<|j<|zf (m:=1) O O<|zn (q:=1) (c:=.d (.sl 2<|C.Writes.map zi)) A bZ O O<|J O ?_);obtain⟨I,M,H⟩:=zj H;refine zD (u:=oI I) S R (zgd M) (Ec O<|Ec A En) (Vc Vp<|Vc Vp Vn) O (J A<|Y<|aS<|j<|J A<|qj A S<|Y ?_);obtain⟨F,H⟩|⟨F,H⟩:=ab H
 ·refine zh A F (j<|J S<|Y<|K<|W ?_);cases H;exact eE O O
 refine zg A F (Q<|G<|j<|J O<|J A<|Y<|K ?_);cases H;exact eE O O
theorem zgv{D:List zP}{P:Int}{r:Int}(H:YR D P=some r):Fn Tryz.prog 76 (lent [.sl 2 (D.map zx),.int .i64 P]) true [.int .i64 r]:=by
 refine ac f76 O (B (z [] (kv 0 (.one<|.d<|.sl 2<|D.map zx) O O<|kv 1 (oI P) O O N) L E)<|j<|J S<|Y<|j<|J O<|J O<|zY A (n:=D.length) lm<|zbR O A<|J A<|Y<|aS<|j<|J A<|qj A S<|Y ?_);obtain⟨T,H⟩|⟨T,H⟩:=ab H
 ·refine zh A T (j<|J S<|Y<|K<|W ?_);cases H;exact eE O O
 refine zg A T (Q<|G<|zH (fun M:Int=>kQ M=some r) (fun M=>mk [(1,oI M)] [] noG) ?_ ?_)
 ·intro M H;refine j (J A<|J A<|Y<|K ?_);cases H;exact eE O O
 refine j (J S<|Y<|U<|au (fun F:(Int×Int)=>mk [(0,.one<|.d<|.sl 2<|D.map zx),(1,oI F.1),(5,oI F.2)] [] noG) H (z [] (sR O O) L E) ?_);intro a F H;refine aS (j<|J O<|J O<|zY A (n:=D.length) lm<|qj O A<|Y ?_);obtain⟨V,H⟩|⟨V,H⟩:=ab H
 ·refine zh A V (Q<|G<|aS<|U<|j<|J O<|J O ?_);obtain⟨b,X,H⟩:=zj H;refine qm O A X (qc (es:=j6 b) A O<|J O ?_);obtain⟨I,Z,H⟩:=zj H;refine zD (u:=oI I) S R (zhZ Z) (Ec O<|Ec A En) (Vc (q O)<|Vc Vp Vn) O (J A<|Y<|j<|J A<|qj A S<|Y<|B (z [] (kr 25 O O<|kr 1 O O<|kr 0 O O<|kr 5 O O N) L E) ?_);obtain⟨C,H⟩|⟨C,H⟩:=ab H
  ·refine zh A C (j<|J S<|Y<|K<|av<|W<|W<|av<|W ?_);cases H;exact eE O O
  exact zg A C (Q<|aB<|G<|aR<|J O<|qf A S<|J A<|zo<|G ⟨(I,IntKind.wrap .i64 (F.2+1)),H,z [] (sR O O) L E⟩)
 exact zg A V (ar<|t<|t<|aC<|G ⟨F.1,H,z [] (sR O O) L E⟩)
theorem zdD{C:List Int}{D:Int}{r:Int}(H:J1 C D=some r):Fn Tryz.prog 77 (lent [.sl 1 (C.map zl),.int .i64 D]) true [.int .i64 r]:=by
 refine ac f77 O (B (z [] (kv 0 (.one<|.d<|.sl 1<|C.map zl) O O<|kv 1 (oI D) O O N) L E)<|j<|J S<|Y<|j<|J O<|J O<|zY A (n:=C.length) lm<|zbR O A<|J A<|Y<|aS<|j<|J A<|qj A S<|Y ?_);obtain⟨F,H⟩|⟨F,H⟩:=ab H
 ·refine zh A F (j<|J S<|Y<|K<|W ?_);cases H;exact eE O O
 refine zg A F (Q<|G<|j<|J O<|J A<|Y<|K ?_);cases H;exact eE O O
theorem zgN{C:zt}{U:Int}{r:Int}(H:YT C U=some r):Fn Tryz.prog 18 (lent [.agg (zT C),.int .i64 U]) true [.int .i64 r]:=by
 refine ac f18 O (B (z [] (kv 0 (.agg<|zE C) O O<|kv 1 (oI U) O O N) L E)<|j<|jb (n:=128) (m:=9) (cs:=zE C) O A O O nZ<|J S<|Y<|j<|zf (m:=1) O O<|zn (q:=1) (c:=.d (.sl 2<|C.Own.map zd)) A bZ O O<|J O ?_);obtain⟨l,p,H⟩:=zj H;refine zD (u:=oI l) S R (zcm p) (Ec O<|Ec A En) (Vc Vp<|Vc Vp Vn) O (J A<|Y<|aS<|j<|J A<|qj A S<|Y ?_);obtain⟨V,H⟩|⟨V,H⟩:=ab H
 ·refine zh A V (j<|J S<|Y<|K<|W ?_);cases H;exact eE O O
 refine zg A V (Q<|G<|j<|zf (m:=2) O O<|zn (q:=2) (c:=.d (.sl 2<|C.Frozen.map zd)) A bZ O O<|J O ?_);obtain⟨s,t,H⟩:=zj H;refine zD (u:=oI s) S R (zcm t) (Ec O<|Ec A En) (Vc Vp<|Vc Vp Vn) O (J A<|Y<|B (z [] (kr 1 O O<|kr 2 O O N) (o O)<|I (n:=128) O bZ O O E)<|aS<|j<|J A<|qj A S<|Y ?_);obtain⟨X,H⟩|⟨X,H⟩:=ab H
 ·refine zh A X (j<|J S<|Y<|K<|W ?_);cases H;exact eE O O
 refine zg A X (Q<|G<|j<|zf (m:=3) O O<|zn (q:=3) (c:=.d (.sl 2<|C.Cells.map zi)) A bZ O O<|J O ?_);obtain⟨v,Z,H⟩:=zj H;refine zD (u:=oI v) S R (zg4 Z) (Ec O<|Ec A En) (Vc Vp<|Vc Vp Vn) O (J A<|Y<|aS<|j<|J A<|qj A S<|Y ?_);obtain⟨D,H⟩|⟨D,H⟩:=zB H
 ·refine zh A (dT D) (j<|J S<|Y<|K<|W ?_);cases H;exact eE O O
 refine zg A (dF D) (Q<|G<|j<|zf (m:=4) O O<|zn (q:=4) (c:=.d (.sl 4<|C.Locks.map zk)) A bZ O O<|J O ?_);obtain⟨a,b,H⟩:=zj H;refine zD (u:=oI a) S R (zhu b) (Ec O<|Ec A En) (Vc Vp<|Vc Vp Vn) O (J A<|Y<|B (z [] (kr 1 O O<|kr 2 O O N) (o O)<|I (n:=128) O bZ O O E)<|aS<|j<|J A<|qj A S<|Y ?_);obtain⟨F,H⟩|⟨F,H⟩:=zB H
 ·refine zh A (dT F) (j<|J S<|Y<|K<|W ?_);cases H;exact eE O O
 refine zg A (dF F) (Q<|G<|j<|zf (m:=5) O O<|zn (q:=5) (c:=.d (.sl 2<|C.Helds.map zx)) A bZ O O<|J O ?_);obtain⟨e,f,H⟩:=zj H;refine zD (u:=oI e) S R (zgv f) (Ec O<|Ec A En) (Vc Vp<|Vc Vp Vn) O (J A<|Y<|aS<|j<|J A<|qj A S<|Y ?_);obtain⟨M,H⟩|⟨M,H⟩:=zB H
 ·refine zh A (dT M) (j<|J S<|Y<|K<|W ?_);cases H;exact eE O O
 refine zg A (dF M) (Q<|G<|j<|zf (m:=6) O O<|zn (q:=6) (c:=.d (.sl 1<|C.Wounded.map zl)) A bZ O O<|J O ?_);obtain⟨g,h,H⟩:=zj H;refine zD (u:=oI g) S R (zdD h) (Ec O<|Ec A En) (Vc Vp<|Vc Vp Vn) O (J A<|Y<|B (z [] (kr 1 O O<|kr 2 O O N) (o O)<|I (n:=128) O bZ O O E)<|aS<|j<|J A<|qj A S<|Y ?_);obtain⟨P,H⟩|⟨P,H⟩:=zB H
 ·refine zh A (dT P) (j<|J S<|Y<|K<|W ?_);cases H;exact eE O O
 refine zg A (dF P) (Q<|G<|j<|zf (m:=7) O O<|zn (q:=7) (c:=.d (.sl 1<|C.Ended.map zl)) A bZ O O<|J O ?_);obtain⟨i,k,H⟩:=zj H;refine zD (u:=oI i) S R (zdD k) (Ec O<|Ec A En) (Vc Vp<|Vc Vp Vn) O (J A<|Y<|aS<|j<|J A<|qj A S<|Y ?_);obtain⟨T,H⟩|⟨T,H⟩:=zB H
 ·refine zh A (dT T) (j<|J S<|Y<|K<|W ?_);cases H;exact eE O O
 refine zg A (dF T) (Q<|G<|j<|J O<|J A<|Y<|K ?_);cases H;exact eE O O
theorem XS{C:zm}{r:zm}(H:y0 C=some r):Fn Tryz.prog 21 (lent [.agg (zd C)]) true [.agg (zd r)]:=by
 refine ac f21 O (B (z [] (kv 0 (.agg [Z C.Lo,Z C.Hi]) O O N) L E)<|j<|jb (n:=64) (m:=2) (cs:=[Z C.Lo,Z C.Hi]) O A O O nZ<|y8 (n:=128) (m:=2) O O (nR O)<|Y<|j<|y8 (n:=192) (m:=2) O O (nR O)<|Y<|j<|zf (m:=0) O O<|zn (q:=0) (c:=Z C.Lo) A (s O) O O<|zf (m:=0) O O<|zR (es:=[Z C.Lo,Z 0]) A O O O bZ O<|Y<|j<|zf (m:=1) O O<|zn (q:=1) (c:=Z C.Hi) A (s O) O O<|zf (m:=1) O O<|zR (es:=[Z C.Lo,Z C.Hi]) A O O O bZ O<|Y<|j<|zL (es:=[Z C.Lo,Z C.Hi]) O bZ O<|zR (es:=[Z C.Lo,Z C.Hi]) O A O O (s O) O<|Y<|K ?_);cases H;exact qE (p (jp (es:=[Z C.Lo,Z C.Hi]) O bZ O) (bn (ds:=[.int .i64 C.Lo,.int .i64 C.Hi]) O O) aA) List.nodup_nil
theorem zcr{F:List zm}{r:List zm}(H:Qj F=some r):Fn Tryz.prog 84 (lent [.sl 2 (F.map zd)]) true [.sl 2 (List.map zd r)]:=by
 refine ac f84 O (B (z [] (kv 0 (.one<|.d<|.sl 2<|F.map zd) O O N) L E)<|j<|J S<|Y<|j<|J O<|zY A (n:=F.length) lm ?_);obtain⟨W,H⟩:=z6 H;refine zkn (f:=zd) (zv:=zm.mk 0 0) (own:=true) (m:=448) (q:=Int.toNat (F.length:Int)) O O A A W.1 W.2 O (by decide) O nZ (J A<|Y<|zH (fun I:List zm=>xB I=some r) (fun I=>mk [(3,.one<|ai 320128 I)] [(320128,.data 2 (List.map zd I) true none)] noG) ?_ ?_)
 ·intro I H;refine j (J A<|J A<|Y<|K ?_);obtain rfl:=(Option.some.inj H);exact qE (p (w A) (ao bZ lm (zF fun _=>O)) aA) (by decide)
 refine j (J S<|Y<|U<|au (fun D:(List zm×Int)=>mk [(0,.one<|.d<|.sl 2<|F.map zd),(3,.one<|ai 320192 D.1),(4,oI D.2)] [(320192,.data 2 (List.map zd D.1) true none)] noG) H ((z [] (kR O O<|ax (eR O) O (ay af)<|sR O O) (o O)<|bkR O O O).trans<|y9 448 320192 O O<|nR O) ?_);intro a D H;refine aS (j<|J O<|J O<|zY A (n:=F.length) lm<|qj O A<|Y ?_);obtain⟨P,H⟩|⟨P,H⟩:=ab H
 ·refine zh A P (Q<|G<|aS<|U<|aR<|J O<|J O<|J O<|J O ?_);obtain⟨X,b,H⟩:=zj H;refine qm O A b (qc (es:=[Z X.Lo,Z X.Hi]) A O ?_);obtain⟨C,T,H⟩:=zj H;refine zD (u:=.agg [Z C.Lo,Z C.Hi]) S R (XS T) (Ec A En) (Vc (q O) Vn) O ?_;obtain⟨V,M,H⟩:=zj H;exact K3 O O bZ O M (ZH (t:=V) (t':=C) (es:=[.int .i64 C.Lo,.int .i64 C.Hi]) A O O O bZ (Zs M) O O<|zo<|aB<|G<|aR<|J O<|qf A S<|J A<|zo<|G ⟨(D.1.set (Int.toNat D.2) C,IntKind.wrap .i64 (D.2+1)),H,z [] (kR O O<|ax (eR O) O (ay af)<|sR O O) (o O)<|bkR O O O⟩)
 exact zg A P (ar<|t<|t<|aC<|G ⟨D.1,H,(z [] (sR O O) (o O)<|bkR O O O).trans<|y9 320192 320128 O O<|nR O⟩)
theorem zhS{C:zr}{r:zr}(H:KE C=some r):Fn Tryz.prog 198 (lent [.agg (zi C)]) true [.agg (zi r)]:=by
 refine ac zKL O (B (z [] (kv 0 (.agg [Z C.Key,Z C.Value]) O O N) L E)<|j<|jb (n:=64) (m:=2) (cs:=[Z C.Key,Z C.Value]) O A O O nZ<|y8 (n:=128) (m:=2) O O (nR O)<|Y<|j<|y8 (n:=192) (m:=2) O O (nR O)<|Y<|j<|zf (m:=0) O O<|zn (q:=0) (c:=Z C.Key) A (s O) O O<|zf (m:=0) O O<|zR (es:=[Z C.Key,Z 0]) A O O O bZ O<|Y<|j<|zf (m:=1) O O<|zn (q:=1) (c:=Z C.Value) A (s O) O O<|zf (m:=1) O O<|zR (es:=[Z C.Key,Z C.Value]) A O O O bZ O<|Y<|j<|zL (es:=[Z C.Key,Z C.Value]) O bZ O<|zR (es:=[Z C.Key,Z C.Value]) O A O O (s O) O<|Y<|K ?_);cases H;exact qE (p (jp (es:=[Z C.Key,Z C.Value]) O bZ O) (bn (ds:=[.int .i64 C.Key,.int .i64 C.Value]) O O) aA) List.nodup_nil
theorem zgL{F:List zr}{r:List zr}(H:Yy F=some r):Fn Tryz.prog 85 (lent [.sl 2 (F.map zi)]) true [.sl 2 (List.map zi r)]:=by
 refine ac f85 O (B (z [] (kv 0 (.one<|.d<|.sl 2<|F.map zi) O O N) L E)<|j<|J S<|Y<|j<|J O<|zY A (n:=F.length) lm ?_);obtain⟨W,H⟩:=z6 H;refine zkn (f:=zi) (zv:=zr.mk 0 0) (own:=true) (m:=448) (q:=Int.toNat (F.length:Int)) O O A A W.1 W.2 O (by decide) O nZ (J A<|Y<|zH (fun I:List zr=>kY I=some r) (fun I=>mk [(3,.one<|ai 320128 I)] [(320128,.data 2 (List.map zi I) true none)] noG) ?_ ?_)
 ·intro I H;refine j (J A<|J A<|Y<|K ?_);obtain rfl:=(Option.some.inj H);exact qE (p (w A) (ao bZ lm (zF fun _=>O)) aA) (by decide)
 refine j (J S<|Y<|U<|au (fun D:(List zr×Int)=>mk [(0,.one<|.d<|.sl 2<|F.map zi),(3,.one<|ai 320192 D.1),(4,oI D.2)] [(320192,.data 2 (List.map zi D.1) true none)] noG) H ((z [] (kR O O<|ax (eR O) O (ay af)<|sR O O) (o O)<|bkR O O O).trans<|y9 448 320192 O O<|nR O) ?_);intro a D H;refine aS (j<|J O<|J O<|zY A (n:=F.length) lm<|qj O A<|Y ?_);obtain⟨P,H⟩|⟨P,H⟩:=ab H
 ·refine zh A P (Q<|G<|aS<|U<|aR<|J O<|J O<|J O<|J O ?_);obtain⟨X,b,H⟩:=zj H;refine qm O A b (qc (es:=[Z X.Key,Z X.Value]) A O ?_);obtain⟨C,T,H⟩:=zj H;refine zD (u:=.agg [Z C.Key,Z C.Value]) S R (zhS T) (Ec A En) (Vc (q O) Vn) O ?_;obtain⟨V,M,H⟩:=zj H;exact K3 O O bZ O M (ZH (t:=V) (t':=C) (es:=[.int .i64 C.Key,.int .i64 C.Value]) A O O O bZ (Zs M) O O<|zo<|aB<|G<|aR<|J O<|qf A S<|J A<|zo<|G ⟨(D.1.set (Int.toNat D.2) C,IntKind.wrap .i64 (D.2+1)),H,z [] (kR O O<|ax (eR O) O (ay af)<|sR O O) (o O)<|bkR O O O⟩)
 exact zg A P (ar<|t<|t<|aC<|G ⟨D.1,H,(z [] (sR O O) (o O)<|bkR O O O).trans<|y9 320192 320128 O O<|nR O⟩)
theorem zh9{C:zu}{r:zu}(H:KH C=some r):Fn Tryz.prog 199 (lent [.agg (zk C)]) true [.agg (zk r)]:=by
 refine ac zLN O (B (z [] (kv 0 (.agg<|zW C) O O N) L E)<|j<|jb (n:=64) (m:=4) (cs:=zW C) O A O O nZ<|y8 (n:=128) (m:=4) O O (nR O)<|Y<|j<|y8 (n:=192) (m:=4) O O (nR O)<|Y<|j<|zf (m:=0) O O<|zn (q:=0) (c:=Z C.Tx) A (s O) O O<|zf (m:=0) O O<|zR (es:=[Z C.Tx,Z 0,Z 0,Z 0]) A O O O bZ O<|Y<|j<|zf (m:=1) O O<|zn (q:=1) (c:=Z C.Lo) A (s O) O O<|zf (m:=1) O O<|zR (es:=[Z C.Tx,Z C.Lo,Z 0,Z 0]) A O O O bZ O<|Y<|j<|zf (m:=2) O O<|zn (q:=2) (c:=Z C.Hi) A (s O) O O<|zf (m:=2) O O<|zR (es:=[Z C.Tx,Z C.Lo,Z C.Hi,Z 0]) A O O O bZ O<|Y<|j<|zf (m:=3) O O<|zn (q:=3) (c:=Z C.Mode) A (s O) O O<|zf (m:=3) O O<|zR (es:=zW C) A O O O bZ O<|Y<|B (z [64] (kr 3 O O<|kr 2 O O N) (o O)<|I (n:=192) O bZ O O<|I (n:=128) O (s O) O O E)<|j<|zL (es:=zW C) A bZ O<|zR (es:=zW C) O A O O (s O) O<|Y<|K ?_);cases H;exact qE (p (jp (es:=zW C) O bZ O) (bn (ds:=[.int .i64 C.Tx,.int .i64 C.Lo,.int .i64 C.Hi,.int .i64 C.Mode]) O O) aA) List.nodup_nil
theorem zhc{F:List zu}{r:List zu}(H:YH F=some r):Fn Tryz.prog 86 (lent [.sl 4 (F.map zk)]) true [.sl 4 (List.map zk r)]:=by
 refine ac f86 O (B (z [] (kv 0 (.one<|.d<|.sl 4<|F.map zk) O O N) L E)<|j<|J S<|Y<|j<|J O<|zY A (n:=F.length) lm ?_);obtain⟨W,H⟩:=z6 H;refine zkn (f:=zk) (zv:=zu.mk 0 0 0 0) (own:=true) (m:=448) (q:=Int.toNat (F.length:Int)) O O A A W.1 W.2 O (by decide) O nZ (J A<|Y<|zH (fun I:List zu=>kD I=some r) (fun I=>mk [(3,.one<|ai 320128 I)] [(320128,.data 4 (List.map zk I) true none)] noG) ?_ ?_)
 ·intro I H;refine j (J A<|J A<|Y<|K ?_);obtain rfl:=(Option.some.inj H);exact qE (p (w A) (ao bZ lm (zF fun _=>O)) aA) (by decide)
 refine j (J S<|Y<|U<|au (fun D:(List zu×Int)=>mk [(0,.one<|.d<|.sl 4<|F.map zk),(3,.one<|ai 320192 D.1),(4,oI D.2)] [(320192,.data 4 (List.map zk D.1) true none)] noG) H ((z [] (kR O O<|ax (eR O) O (ay af)<|sR O O) (o O)<|bkR O O O).trans<|y9 448 320192 O O<|nR O) ?_);intro X D H;refine aS (j<|J O<|J O<|zY A (n:=F.length) lm<|qj O A<|Y ?_);obtain⟨P,H⟩|⟨P,H⟩:=ab H
 ·refine zh A P (Q<|G<|aS<|U<|aR<|J O<|J O<|J O<|J O ?_);obtain⟨Z,a,H⟩:=zj H;refine qm O A a (qc (es:=zW Z) A O ?_);obtain⟨C,T,H⟩:=zj H;refine zD (u:=.agg (zW C)) S R (zh9 T) (Ec A En) (Vc (q O) Vn) O ?_;obtain⟨V,M,H⟩:=zj H;exact K3 O O bZ O M (ZH (t:=V) (t':=C) (es:=[.int .i64 C.Tx,.int .i64 C.Lo,.int .i64 C.Hi,.int .i64 C.Mode]) A O O O bZ (Zs M) O O<|zo<|aB<|G<|aR<|J O<|qf A S<|J A<|zo<|G ⟨(D.1.set (Int.toNat D.2) C,IntKind.wrap .i64 (D.2+1)),H,z [] (kR O O<|ax (eR O) O (ay af)<|sR O O) (o O)<|bkR O O O⟩)
 exact zg A P (ar<|t<|t<|aC<|G ⟨D.1,H,(z [] (sR O O) (o O)<|bkR O O O).trans<|y9 320192 320128 O O<|nR O⟩)
theorem zg7{C:zr}{r:zr}(H:XE C=some r):Fn Tryz.prog 344 (lent [.agg (zi C)]) true [.agg (zi r)]:=by
 refine ac zLS O (B (z [] (kv 0 (.agg [Z C.Key,Z C.Value]) O O N) L E)<|j<|jb (n:=64) (m:=2) (cs:=[Z C.Key,Z C.Value]) O A O O nZ<|y8 (n:=128) (m:=2) O O (nR O)<|Y<|j<|y8 (n:=192) (m:=2) O O (nR O)<|Y<|j<|zf (m:=0) O O<|zn (q:=0) (c:=Z C.Key) A (s O) O O<|zf (m:=0) O O<|zR (es:=[Z C.Key,Z 0]) A O O O bZ O<|Y<|j<|zf (m:=1) O O<|zn (q:=1) (c:=Z C.Value) A (s O) O O<|zf (m:=1) O O<|zR (es:=[Z C.Key,Z C.Value]) A O O O bZ O<|Y<|j<|zL (es:=[Z C.Key,Z C.Value]) O bZ O<|zR (es:=[Z C.Key,Z C.Value]) O A O O (s O) O<|Y<|K ?_);cases H;exact qE (p (jp (es:=[Z C.Key,Z C.Value]) O bZ O) (bn (ds:=[.int .i64 C.Key,.int .i64 C.Value]) O O) aA) List.nodup_nil
theorem zf4{F:List zr}{r:List zr}(H:JQ F=some r):Fn Tryz.prog 283 (lent [.sl 2 (F.map zi)]) true [.sl 2 (List.map zi r)]:=by
 refine ac zMf O (B (z [] (kv 0 (.one<|.d<|.sl 2<|F.map zi) O O N) L E)<|j<|J S<|Y<|j<|J O<|zY A (n:=F.length) lm ?_);obtain⟨W,H⟩:=z6 H;refine zkn (f:=zi) (zv:=zr.mk 0 0) (own:=true) (m:=448) (q:=Int.toNat (F.length:Int)) O O A A W.1 W.2 O (by decide) O nZ (J A<|Y<|zH (fun I:List zr=>xc I=some r) (fun I=>mk [(3,.one<|ai 320128 I)] [(320128,.data 2 (List.map zi I) true none)] noG) ?_ ?_)
 ·intro I H;refine j (J A<|J A<|Y<|K ?_);obtain rfl:=(Option.some.inj H);exact qE (p (w A) (ao bZ lm (zF fun _=>O)) aA) (by decide)
 refine j (J S<|Y<|U<|au (fun D:(List zr×Int)=>mk [(0,.one<|.d<|.sl 2<|F.map zi),(3,.one<|ai 320192 D.1),(4,oI D.2)] [(320192,.data 2 (List.map zi D.1) true none)] noG) H ((z [] (kR O O<|ax (eR O) O (ay af)<|sR O O) (o O)<|bkR O O O).trans<|y9 448 320192 O O<|nR O) ?_);intro a D H;refine aS (j<|J O<|J O<|zY A (n:=F.length) lm<|qj O A<|Y ?_);obtain⟨P,H⟩|⟨P,H⟩:=ab H
 ·refine zh A P (Q<|G<|aS<|U<|aR<|J O<|J O<|J O<|J O ?_);obtain⟨X,b,H⟩:=zj H;refine qm O A b (qc (es:=[Z X.Key,Z X.Value]) A O ?_);obtain⟨C,T,H⟩:=zj H;refine zD (u:=.agg [Z C.Key,Z C.Value]) S R (zg7 T) (Ec A En) (Vc (q O) Vn) O ?_;obtain⟨V,M,H⟩:=zj H;exact K3 O O bZ O M (ZH (t:=V) (t':=C) (es:=[.int .i64 C.Key,.int .i64 C.Value]) A O O O bZ (Zs M) O O<|zo<|aB<|G<|aR<|J O<|qf A S<|J A<|zo<|G ⟨(D.1.set (Int.toNat D.2) C,IntKind.wrap .i64 (D.2+1)),H,z [] (kR O O<|ax (eR O) O (ay af)<|sR O O) (o O)<|bkR O O O⟩)
 exact zg A P (ar<|t<|t<|aC<|G ⟨D.1,H,(z [] (sR O O) (o O)<|bkR O O O).trans<|y9 320192 320128 O O<|nR O⟩)
theorem zh3{C:zP}{r:zP}(H:kf C=some r):Fn Tryz.prog 200 (lent [.agg (zx C)]) true [.agg (zx r)]:=by
 refine ac zLg O (B (t:=mk [(0,.agg<|j6 C)] [] (lk [])) (z [] (sR O O) L E)<|j<|jb (n:=64) (m:=2) (cs:=j6 C) O A O O nZ<|y8 (n:=128) (m:=2) O O (nR O)<|Y<|j<|y8 (n:=192) (m:=2) O O (nR O)<|Y<|j<|zf (m:=0) O O<|zn (q:=0) (c:=Z C.Tx) A (s O) O O<|zf (m:=0) O O<|zR (es:=[Z C.Tx,.zs]) A O O O bZ O<|Y<|aS<|z7<|zC<|zf (m:=1) O O<|zo<|zC<|zn (q:=1) (c:=.d (.sl 2<|C.Writes.map zi)) A (s O) O O<|zo<|zC ?_);obtain⟨D,F,H⟩:=zj H;refine j5 (u:=.one (ai 576 D)) (bs:=[(576,.data 2 (D.map zi) true none)]) S R (zf4 F) (Ec A En) (Vc Vp Vn) (by simp[jf,jO,qx,jz,ql]) O (fC (nR O) O<|fC (nR O) O fN) (zo<|zC<|zf (m:=1) O O<|zo<|zC<|zR (es:=[Z C.Tx,ai 576 D]) A O O O (s O) O<|zo<|qh<|Y<|aS<|z7<|zC<|zL (es:=[Z C.Tx,ai 576 D]) O bZ O<|zo<|zC<|zR (es:=[Z C.Tx,ai 576 D]) O A O O (s O) O<|zo<|qh<|Y<|K ?_);cases H;exact qE (p (jp (es:=[Z C.Tx,ai 576 D]) O bZ O) (bg<|X (am O)<|X (ao (s O) lm (zF fun _=>O)) aP) aA) (by decide)
theorem zgD{F:List zP}{r:List zP}(H:YF F=some r):Fn Tryz.prog 87 (lent [.sl 2 (F.map zx)]) true [.sl 2 (List.map zx r)]:=by
 refine ac f87 O (B (t:=mk [(0,.one<|.d<|.sl 2<|F.map zx)] [] (lk [])) (z [] (sR O O) L E)<|j<|J S<|Y<|aS<|z7<|zC<|J O<|zo<|zC<|zY A (n:=F.length) lm<|zo ?_);obtain⟨W,H⟩:=z6 H;refine zvk (f:=zx) (zv:=zP.mk 0 ([]:List zr)) (m:=448) (q:=Int.toNat (F.length:Int)) O A A W.1 W.2 O (by decide) O nZ (qh<|J A<|Y<|zH (fun I:List zP=>kT I=some r) (fun I=>mk [(3,.one<|ai 320128 I)] [(320128,.data 2 (List.map zx I) true none)] (lk [])) ?_ ?_)
 ·intro I H;refine j (J A<|J A<|Y<|K ?_);obtain rfl:=(Option.some.inj H);exact qE (p (w A) (Ya bZ lm O) aA) (by decide)
 refine j (J S<|Y<|U<|au (fun C:(List zP×Int)=>mk [(0,.one<|.d<|.sl 2<|F.map zx),(3,.one<|ai 320192 C.1),(4,oI C.2)] [(320192,.data 2 (List.map zx C.1) true none)] (lk [])) H ((zG [] (kR O O<|ax (eR O) O (ay af)<|sR O O) (o O) (bkR O O O) m).trans<|ZG 448 320192 O O (nR O) aY) ?_);intro a C H;refine aS (j<|J O<|J O<|zY A (n:=F.length) lm<|qj O A<|Y ?_);obtain⟨N,H⟩|⟨N,H⟩:=ab H
 ·refine zh A N (Q<|G<|aS<|U<|z7<|zC<|J O<|zo<|zC<|J O<|zo<|zC<|J O<|zo<|zC<|J O<|zo<|zC ?_);obtain⟨P,b,H⟩:=zj H;refine qm O A b (zo<|zC<|qc (es:=j6 P) A O<|zo<|zC ?_);obtain⟨D,T,H⟩:=zj H;refine j5 (u:=.agg [Z D.Tx,ai 1281 D.Writes]) (bs:=[(1281,.data 2 (D.Writes.map zi) true none)]) S R (zh3 T) (Ec A En) (Vc (q O) Vn) (by simp[jf,jO,qx,jz,ql]) O (fC (nR O) O<|fC (nR O) O fN) (zo<|zC ?_);obtain⟨V,M,H⟩:=zj H;exact K3 O O (s O) O M (zo<|zkR (f:=zx) (t:=V) (t':=D) (ds:=[.int .i64 D.Tx,.sl 2<|D.Writes.map zi]) (ns:=[1281]) A O O O (s O) (Zs M) (X (am O)<|X (ao bZ lm (zF fun _=>O)) aP) O O (aj (.one<|.ptr<|.nm 320192 (Int.toNat C.2) 0) O<|aj (.agg [Z D.Tx,.any]) O<|aj (.agg<|j6 P) O<|aj (.one<|.ptr<|.bd (zx P) 0) O<|aj (oI C.2) O<|aj (.one<|.d<|.sl 2<|F.map zx) O<|aj (oI C.2) O<|aj (.one<|ai 320192 C.1) O<|aj (oB<|decide (C.2 < (F.length:Int))) O<|aj (oI (F.length:Int)) O<|aj (.one<|.d<|.sl 2<|F.map zx) O<|aj (oI C.2) O<|aj (.one<|.d<|.sl 2<|F.map zx) O<|aj (.one<|ai 320192 C.1) O<|aj (oI C.2) O aw) (aE O<|ak (.data 2 (List.map zx C.1) true none) O O aD) aw<|qh<|zo<|aB<|G<|aR<|J O<|qf A S<|J A<|zo<|G ⟨(C.1.set (Int.toNat C.2) D,IntKind.wrap .i64 (C.2+1)),H,zG [] (kR O O<|ax (eR O) O (ay af)<|sR O O) (o O) (bkR O O O) m⟩)
 exact zg A N (ar<|t<|t<|aC<|G ⟨C.1,H,(zG [] (sR O O) (o O) (bkR O O O) m).trans<|ZG 320192 320128 O O (nR O) aY⟩)
theorem zdB{D:List Int}{r:List Int}(H:J8 D=some r):Fn Tryz.prog 88 (lent [.sl 1 (D.map zl)]) true [.sl 1 (List.map zl r)]:=by
 refine ac f88 O (B (z [] (kv 0 (.one<|.d<|.sl 1<|D.map zl) O O N) L E)<|j<|J S<|Y<|j<|J O<|zY A (n:=D.length) lm ?_);obtain⟨T,H⟩:=z6 H;refine zkn (f:=zl) (zv:=0) (own:=true) (m:=448) (q:=Int.toNat (D.length:Int)) O O A A T.1 T.2 O (by decide) O nZ (J A<|Y<|zH (fun F:List Int=>X1 F=some r) (fun F=>mk [(3,.one<|ai 320128 F)] [(320128,.data 1 (List.map zl F) true none)] noG) ?_ ?_)
 ·intro F H;refine j (J A<|J A<|Y<|K ?_);obtain rfl:=(Option.some.inj H);exact qE (p (w A) (ao bZ lm (zF fun _=>O)) aA) (by decide)
 refine j (J S<|Y<|U<|au (fun C:(List Int×Int)=>mk [(0,.one<|.d<|.sl 1<|D.map zl),(3,.one<|ai 320192 C.1),(4,oI C.2)] [(320192,.data 1 (List.map zl C.1) true none)] noG) H ((z [] (kR O O<|ax (eR O) O (ay af)<|sR O O) (o O)<|bkR O O O).trans<|y9 448 320192 O O<|nR O) ?_);intro V C H;refine aS (j<|J O<|J O<|zY A (n:=D.length) lm<|qj O A<|Y ?_);obtain⟨P,H⟩|⟨P,H⟩:=ab H
 ·refine zh A P (Q<|G<|aS<|U<|aR<|J O<|J O<|J O<|J O ?_);obtain⟨M,W,H⟩:=zj H;refine qm O A W (zZ (e:=.int .i64 M) A O ?_);obtain⟨R,I,H⟩:=zj H;exact K3 O O bZ O I (ZH (t:=R) (t':=M) (es:=[.int .i64 M]) A O O O bZ (Zs I) O O<|zo<|aB<|G<|aR<|J O<|qf A S<|J A<|zo<|G ⟨(C.1.set (Int.toNat C.2) M,IntKind.wrap .i64 (C.2+1)),H,z [] (kR O O<|ax (eR O) O (ay af)<|sR O O) (o O)<|bkR O O O⟩)
 exact zg A P (ar<|t<|t<|aC<|G ⟨C.1,H,(z [] (sR O O) (o O)<|bkR O O O).trans<|y9 320192 320128 O O<|nR O⟩)
theorem X5{C:zt}{r:zt}(H:Zf C=some r):Fn Tryz.prog 20 (lent [.agg (zT C)]) true [.agg (zT r)]:=by
 refine ac f20 O (B (t:=mk [(0,.agg<|zE C)] [] (lk [])) (z [] (sR O O) L E)<|j<|jb (n:=64) (m:=9) (cs:=zE C) O A O O nZ<|y8 (n:=128) (m:=9) O O (nR O)<|Y<|j<|y8 (n:=192) (m:=9) O O (nR O)<|Y<|j<|zf (m:=0) O O<|zn (q:=0) (c:=Z C.Me) A (s O) O O<|zf (m:=0) O O<|zR (es:=[Z C.Me,.zs,.zs,.zs,.zs,.zs,.zs,.zs,Z 0]) A O O O bZ O<|Y<|aS<|z7<|zC<|zf (m:=1) O O<|zo<|zC<|zn (q:=1) (c:=.d (.sl 2<|C.Own.map zd)) A (s O) O O<|zo<|zC ?_);obtain⟨J,W,H⟩:=zj H;refine j5 (u:=.one (ai 576 J)) (bs:=[(576,.data 2 (J.map zd) true none)]) S R (zcr W) (Ec A En) (Vc Vp Vn) (by simp[jf,jO,qx,jz,ql]) O (fC (nR O) O<|fC (nR O) O fN) (zo<|zC<|zf (m:=1) O O<|zo<|zC<|zR (es:=[Z C.Me,ai 576 J,.zs,.zs,.zs,.zs,.zs,.zs,Z 0]) A O O O (s O) O<|zo<|qh<|Y<|aS<|z7<|zC<|zf (m:=2) O O<|zo<|zC<|zn (q:=2) (c:=.d (.sl 2<|C.Frozen.map zd)) A (s O) O O<|zo<|zC ?_);obtain⟨M,a,H⟩:=zj H;refine j5 (u:=.one (ai 832 M)) (bs:=[(832,.data 2 (M.map zd) true none)]) S R (zcr a) (Ec A En) (Vc Vp Vn) (by simp[jf,jO,qx,jz,ql]) O (fC (nR O) O<|fC (nR O) O fN) (zo<|zC<|zf (m:=2) O O<|zo<|zC<|zR (es:=[Z C.Me,ai 576 J,ai 832 M,.zs,.zs,.zs,.zs,.zs,Z 0]) A O O O (s O) O<|zo<|qh<|Y<|aS<|z7<|zC<|zf (m:=3) O O<|zo<|zC<|zn (q:=3) (c:=.d (.sl 2<|C.Cells.map zi)) A (s O) O O<|zo<|zC ?_);obtain⟨P,b,H⟩:=zj H;refine j5 (u:=.one (ai 1088 P)) (bs:=[(1088,.data 2 (P.map zi) true none)]) S R (zgL b) (Ec A En) (Vc Vp Vn) (by simp[jf,jO,qx,jz,ql]) O (fC (nR O) O<|fC (nR O) O fN) (zo<|zC<|zf (m:=3) O O<|zo<|zC<|zR (es:=[Z C.Me,ai 576 J,ai 832 M,ai 1088 P,.zs,.zs,.zs,.zs,Z 0]) A O O O (s O) O<|zo<|qh<|Y<|B (zG [] (kr 3 O O<|kr 2 O O<|kr 1 O O N) (o O) (I (n:=192) O bZ O O<|I (n:=1088) O (s O) O O<|I (n:=832) O (s O) O O<|I (n:=576) O (s O) O O<|I (n:=128) O (s O) O O<|I (n:=64) O (s O) O O E) m)<|aS<|z7<|zC<|zf (m:=4) O O<|zo<|zC<|zn (q:=4) (c:=.d (.sl 4<|C.Locks.map zk)) A (s O) O O<|zo<|zC ?_);obtain⟨Q,e,H⟩:=zj H;refine j5 (u:=.one (ai 1344 Q)) (bs:=[(1344,.data 4 (Q.map zk) true none)]) S R (zhc e) (Ec A En) (Vc Vp Vn) (by simp[jf,jO,qx,jz,ql]) O (fC (nR O) O<|fC (nR O) O fN) (zo<|zC<|zf (m:=4) O O<|zo<|zC<|zR (es:=[Z C.Me,ai 576 J,ai 832 M,ai 1088 P,ai 1344 Q,.zs,.zs,.zs,Z 0]) A O O O (s O) O<|zo<|qh<|Y<|aS<|z7<|zC<|zf (m:=5) O O<|zo<|zC<|zn (q:=5) (c:=.d (.sl 2<|C.Helds.map zx)) A (s O) O O<|zo<|zC ?_);obtain⟨D,T,H⟩:=zj H;refine j5 (u:=.one (ai 1600 D)) (bs:=[(1600,.data 2 (D.map zx) true none)]) S R (zgD T) (Ec A En) (Vc Vp Vn) (by simp[jf,jO,qx,jz,ql]) O (fC (nR O) O<|fC (nR O) O fN) (zo<|zC<|zf (m:=5) O O<|zo<|zC<|zR (es:=[Z C.Me,ai 576 J,ai 832 M,ai 1088 P,ai 1344 Q,ai 1600 D,.zs,.zs,Z 0]) A O O O (s O) O<|zo<|qh<|Y<|aS<|z7<|zC<|zf (m:=6) O O<|zo<|zC<|zn (q:=6) (c:=.d (.sl 1<|C.Wounded.map zl)) A (s O) O O<|zo<|zC ?_);obtain⟨F,U,H⟩:=zj H;refine j5 (u:=.one (ai 1856 F)) (bs:=[(1856,.data 1 (F.map zl) true none)]) S R (zdB U) (Ec A En) (Vc Vp Vn) (by simp[jf,jO,qx,jz,ql]) O (fC (nR O) O<|fC (nR O) O fN) (zo<|zC<|zf (m:=6) O O<|zo<|zC<|zR (es:=[Z C.Me,ai 576 J,ai 832 M,ai 1088 P,ai 1344 Q,ai 1600 D,ai 1856 F,.zs,Z 0]) A O O O (s O) O<|zo<|qh<|Y<|aS<|z7<|zC<|zf (m:=7) O O<|zo<|zC<|zn (q:=7) (c:=.d (.sl 1<|C.Ended.map zl)) A (s O) O O<|zo<|zC ?_);obtain⟨G,V,H⟩:=zj H;refine j5 (u:=.one (ai 2112 G)) (bs:=[(2112,.data 1 (G.map zl) true none)]) S R (zdB V) (Ec A En) (Vc Vp Vn) (by simp[jf,jO,qx,jz,ql]) O (fC (nR O) O<|fC (nR O) O fN) (zo<|zC<|zf (m:=7) O O<|zo<|zC<|zR (es:=[Z C.Me,ai 576 J,ai 832 M,ai 1088 P,ai 1344 Q,ai 1600 D,ai 1856 F,ai 2112 G,Z 0]) A O O O (s O) O<|zo<|qh<|Y<|B (zG [] (kr 3 O O<|kr 2 O O<|kr 1 O O N) (o O) (I (n:=192) O bZ O O<|I (n:=2112) O (s O) O O<|I (n:=1856) O (s O) O O<|I (n:=1600) O (s O) O O<|I (n:=1344) O (s O) O O<|I (n:=1088) O (s O) O O<|I (n:=832) O (s O) O O<|I (n:=576) O (s O) O O<|I (n:=128) O (s O) O O<|I (n:=64) O (s O) O O E) m)<|j<|zf (m:=8) O O<|zn (q:=8) (c:=Z C.Rank) A (s O) O O<|zf (m:=8) O O<|zR (es:=[Z C.Me,ai 576 J,ai 832 M,ai 1088 P,ai 1344 Q,ai 1600 D,ai 1856 F,ai 2112 G,Z C.Rank]) A O O O bZ O<|Y<|aS<|z7<|zC<|zL (es:=[Z C.Me,ai 576 J,ai 832 M,ai 1088 P,ai 1344 Q,ai 1600 D,ai 1856 F,ai 2112 G,Z C.Rank]) O bZ O<|zo<|zC<|zR (es:=[Z C.Me,ai 576 J,ai 832 M,ai 1088 P,ai 1344 Q,ai 1600 D,ai 1856 F,ai 2112 G,Z C.Rank]) O A O O (s O) O<|zo<|qh<|Y<|K ?_);cases H;exact qE (p (jp (es:=[Z C.Me,ai 576 J,ai 832 M,ai 1088 P,ai 1344 Q,ai 1600 D,ai 1856 F,ai 2112 G,Z C.Rank]) O bZ O) (bg<|X (am O)<|X (ao (s O) lm (zF fun _=>O))<|X (ao (s O) lm (zF fun _=>O))<|X (ao (s O) lm (zF fun _=>O))<|X (ao (s O) lm (zF fun _=>O))<|X (Ya (s O) lm O)<|X (ao (s O) lm (zF fun _=>O))<|X (ao (s O) lm (zF fun _=>O))<|X (am O) aP) aA) (by decide)
theorem YY{D:Int}{F:Int}{G:Int}{r:Bool}(H:Zb D F G=some r):Fn Tryz.prog 168 (lent [.int .i64 D,.int .i64 F,.int .i64 G]) true [.bool r]:=by
 refine ac zKq O (B (z [] (kv 0 (oI D) O O<|kv 1 (oI F) O O<|kv 2 (oI G) O O N) L E)<|j<|J S<|Y<|j<|J O<|J O<|zaa O A<|J A ?_);obtain⟨C,H⟩|⟨C,H⟩:=ab H
 ·refine T A C (J O<|T O C<|J O<|T O C<|zcA O A<|zy O C A<|J A<|Y<|K ?_);cases H;exact eE O O
 refine l A C O (l O C O<|l O C O<|zI O C S<|J A<|Y<|K ?_);cases H;exact eE O O
theorem jU{D:zm}{r:Bool}(H:qT D=some r):Fn Tryz.prog 133 (lent [.agg (zd D)]) true [.bool r]:=by
 refine ac zLk O (B (z [] (kv 0 (.agg [Z D.Lo,Z D.Hi]) O O N) L E)<|j<|jb (n:=64) (m:=2) (cs:=[Z D.Lo,Z D.Hi]) O A O O nZ<|J S<|Y<|j<|zf (m:=0) O O<|zn (q:=0) (c:=Z D.Lo) A bZ O O<|zaa A S<|J A ?_);obtain⟨C,H⟩|⟨C,H⟩:=ab H
 ·refine T A C (zf (m:=0) O O<|T O C<|zn (q:=0) (c:=Z D.Lo) A bZ O O<|T O C<|zf (m:=1) O O<|T O C<|zn (q:=1) (c:=Z D.Hi) A bZ O O<|T O C<|qj O A<|zy O C A<|J A ?_);obtain⟨F,H⟩|⟨F,H⟩:=zB H
  ·refine T A (dT F) (zf (m:=1) O O<|T O (dT F)<|zn (q:=1) (c:=Z D.Hi) A bZ O O<|T O (dT F)<|zcA A S<|zy O (dT F) A<|J A<|Y<|B (z [64] (kr 2 O O N) (o O) E)<|K ?_);cases H;exact eE O O
  refine l A (dF F) O (l O (dF F) O<|l O (dF F) O<|zI O (dF F) S<|J A<|Y<|B (z [64] (kr 2 O O N) (o O) E)<|K ?_);cases H;exact eE O O
 refine l A C O (l O C O<|l O C O<|l O C O<|l O C O<|zI O C S<|J A<|l A O O<|l O O O<|l O O O<|zI O O S<|J A<|Y<|B (z [64] (kr 2 O O N) (o O) E)<|K ?_);cases H;exact eE O O
theorem K4{F:List zm}{r:Bool}(H:Zp F=some r):Fn Tryz.prog 196 (lent [.sl 2 (F.map zd)]) true [.bool r]:=by
 refine ac zLu O (B (z [] (kv 0 (.one<|.d<|.sl 2<|F.map zd) O O N) L E)<|j<|J S<|Y<|aS<|j<|J O<|zY A (n:=F.length) lm<|zbh A S<|Y ?_);obtain⟨b,H⟩|⟨b,H⟩:=ab H
 ·refine zh A b (j<|J S<|Y<|K<|W ?_);cases H;exact eE O O
 refine zg A b (Q<|G<|zH (fun c:Unit=>Kp c=some r) (fun c=>mk [] [] noG) ?_ ?_)
 ·intro c H;refine j (J S<|Y<|K ?_);cases H;exact eE O O
 refine j (J S<|Y<|U<|au (fun M:Int=>mk [(0,.one<|.d<|.sl 2<|F.map zd),(3,oI M)] [] noG) H (z [] (sR O O) L E) ?_);intro f M H;refine aS (j<|J O<|J O<|zY A (n:=F.length) lm<|qj O A<|Y ?_);obtain⟨g,H⟩|⟨g,H⟩:=ab H
 ·refine zh A g (Q<|G<|aS<|U<|zH (fun a:Bool=>(ZQ f M) a=some r) (fun a=>mk [(0,.one<|.d<|.sl 2<|F.map zd),(3,oI M),(36,oB a)] [] noG) ?_ ?_)
  ·intro a H;obtain⟨I,H⟩|⟨I,H⟩:=aa H
   ·refine zh O I (j<|J S<|Y<|K<|av<|W<|W<|av<|W ?_);cases H;exact eE O O
   exact zg O I (Q<|aB<|G<|aR<|J O<|qf A S<|J A<|zo<|G ⟨IntKind.wrap .i64 (M+1),H,z [] (sR O O) L E⟩)
  refine aF (J O<|J O ?_);obtain⟨P,h,H⟩:=zj H;refine qm O A h (qc (es:=[Z P.Lo,Z P.Hi]) A O ?_);obtain⟨i,k,H⟩:=zj H;refine zD (u:=oB i) S R (jU k) (Ec A En) (Vc (q O) Vn) O (qH A<|J A ?_);obtain⟨D,H⟩|⟨D,H⟩:=zB H
  ·refine T A (u D) (J O<|T O (u D)<|zbh A S<|T O (u D)<|J A ?_);obtain⟨C,H⟩|⟨C,H⟩:=zB H
   ·refine T A (dT C) (J O<|T O (dT C)<|J O<|T O (dT C) ?_);obtain⟨V,o,H⟩:=zj H;refine qm O A o (T O (dT C)<|qb (m:=0) A O<|T O (dT C)<|zZ (e:=.int .i64 V.Lo) A O<|T O (dT C)<|J O<|T O (dT C)<|J O<|T O (dT C)<|zbR A S<|T O (dT C) ?_);obtain⟨X,p,H⟩:=zj H;exact qm O A p (T O (dT C)<|qb (m:=1) A O<|T O (dT C)<|zZ (e:=.int .i64 X.Hi) A O<|T O (dT C)<|qj O A<|T O (u D)<|zy O (dT C) A<|zI O (u D) A<|zo<|G ⟨decide (V.Lo < X.Hi),H,z [] (sR O O) L E⟩)
   exact l A (dF C) O (l O (dF C) O<|l O (dF C) O<|l O (dF C) O<|l O (dF C) O<|l O (dF C) O<|l O (dF C) O<|l O (dF C) O<|l O (dF C) O<|l O (dF C) O<|l O (dF C) O<|l O (dF C) O<|T O (u D)<|zI O (dF C) S<|zI O (u D) A<|zo<|G ⟨false,H,z [] (sR O O) L E⟩)
  exact l A (u<|nt D) O (l O (u<|nt D) O<|l O (u<|nt D) O<|zJ A O<|zJ O O<|zJ O O<|zJ O O<|zJ O O<|zJ O O<|zJ O O<|zJ O O<|zJ O O<|zJ O O<|zJ O O<|zJ O O<|l O (u<|nt D) O<|zy O (u<|nt D) S<|zo<|G ⟨true,H,z [] (sR O O) L E⟩)
 exact zg A g (ar<|t<|t<|aC<|G ⟨(),H,z [] N L E⟩)
theorem zdK{C:Int}{r:Bool}(H:J9 C=some r):Fn Tryz.prog 292 (lent [.int .i64 C]) true [.bool r]:=by
 refine ac zLH O (B (z [] (kv 0 (oI C) O O N) L E)<|j<|J S<|Y<|j<|J O ?_);obtain⟨D,F,H⟩:=zj H;refine zD (u:=oB D) S R (YY F) (Ec A<|Ec S<|Ec S En) (Vc Vp<|Vc Vp<|Vc Vp Vn) O (J A<|Y<|K ?_);cases H;exact eE O O
theorem zgT{C:Int}{r:Bool}(H:YV C=some r):Fn Tryz.prog 169 (lent [.int .i64 C]) true [.bool r]:=by
 refine ac zKJ O (B (z [] (kv 0 (oI C) O O N) L E)<|j<|J S<|Y<|j<|J O ?_);obtain⟨D,F,H⟩:=zj H;refine zD (u:=oB D) S R (YY F) (Ec A<|Ec S<|Ec S En) (Vc Vp<|Vc Vp<|Vc Vp Vn) O (J A<|Y<|K ?_);cases H;exact eE O O
theorem zaJ{I:List zr}{r:Bool}(H:Z3 I=some r):Fn Tryz.prog 218 (lent [.sl 2 (I.map zi)]) true [.bool r]:=by
 refine ac zKl O (B (z [] (kv 0 (.one<|.d<|.sl 2<|I.map zi) O O N) L E)<|j<|J S<|Y<|aS<|j<|J O<|zY A (n:=I.length) lm<|zbh A S<|Y ?_);obtain⟨a,H⟩|⟨a,H⟩:=ab H
 ·refine zh A a (j<|J S<|Y<|K<|W ?_);cases H;exact eE O O
 refine zg A a (Q<|G<|zH (fun b:Unit=>K7 b=some r) (fun b=>mk [] [] noG) ?_ ?_)
 ·intro b H;refine j (J S<|Y<|K ?_);cases H;exact eE O O
 refine j (J S<|Y<|U<|au (fun P:Int=>mk [(0,.one<|.d<|.sl 2<|I.map zi),(3,oI P)] [] noG) H (z [] (sR O O) L E) ?_);intro c P H;refine aS (j<|J O<|J O<|zY A (n:=I.length) lm<|qj O A<|Y ?_);obtain⟨f,H⟩|⟨f,H⟩:=ab H
 ·refine zh A f (Q<|G<|aS<|U<|zH (fun Z:Bool=>(Zx c P) Z=some r) (fun Z=>mk [(0,.one<|.d<|.sl 2<|I.map zi),(3,oI P),(46,oB Z)] [] noG) ?_ ?_)
  ·intro Z H;obtain⟨M,H⟩|⟨M,H⟩:=aa H
   ·refine zh O M (j<|J S<|Y<|K<|av<|W<|W<|av<|W ?_);cases H;exact eE O O
   exact zg O M (Q<|aB<|G<|aR<|J O<|qf A S<|J A<|zo<|G ⟨IntKind.wrap .i64 (P+1),H,z [] (sR O O) L E⟩)
  refine aF (J O<|J O ?_);obtain⟨g,h,H⟩:=zj H;refine qm O A h (qb (m:=0) A O<|zZ (e:=.int .i64 g.Key) A O ?_);obtain⟨i,k,H⟩:=zj H;refine zD (u:=oB i) S R (zdK k) (Ec A En) (Vc Vp Vn) O (qH A<|J A ?_);obtain⟨D,H⟩|⟨D,H⟩:=zB H
  ·refine T A (u D) (J O<|T O (u D)<|J O<|T O (u D) ?_);obtain⟨o,p,H⟩:=zj H;refine qm O A p (T O (u D)<|qb (m:=1) A O<|T O (u D)<|zZ (e:=.int .i64 o.Value) A O<|T O (u D) ?_);obtain⟨q,s,H⟩:=zj H;refine zD (u:=oB q) S R (zgT s) (Ec A En) (Vc Vp Vn) O (T O (u D)<|qH A<|zI O (u D) A<|J A ?_);obtain⟨F,H⟩|⟨F,H⟩:=zB H
   ·refine T A (u F) (J O<|T O (u F)<|zbh A S<|T O (u F)<|J A ?_);obtain⟨C,H⟩|⟨C,H⟩:=zB H
    ·refine T A (dT C) (J O<|T O (dT C)<|J O<|T O (dT C)<|zbR A S<|T O (dT C) ?_);obtain⟨V,v,H⟩:=zj H;refine qm O A v (T O (dT C)<|qb (m:=0) A O<|T O (dT C)<|zZ (e:=.int .i64 V.Key) A O<|T O (dT C)<|J O<|T O (dT C)<|J O<|T O (dT C) ?_);obtain⟨X,w,H⟩:=zj H;exact qm O A w (T O (dT C)<|qb (m:=0) A O<|T O (dT C)<|zZ (e:=.int .i64 X.Key) A O<|T O (dT C)<|zaa O A<|T O (u F)<|zy O (dT C) A<|zI O (u F) A<|zo<|G ⟨decide (X.Key≤V.Key),H,z [] (sR O O) L E⟩)
    exact l A (dF C) O (l O (dF C) O<|l O (dF C) O<|l O (dF C) O<|l O (dF C) O<|l O (dF C) O<|l O (dF C) O<|l O (dF C) O<|l O (dF C) O<|l O (dF C) O<|l O (dF C) O<|l O (dF C) O<|T O (u F)<|zI O (dF C) S<|zI O (u F) A<|zo<|G ⟨false,H,z [] (sR O O) L E⟩)
   exact l A (u<|nt F) O (l O (u<|nt F) O<|l O (u<|nt F) O<|zJ A O<|zJ O O<|zJ O O<|zJ O O<|zJ O O<|zJ O O<|zJ O O<|zJ O O<|zJ O O<|zJ O O<|zJ O O<|zJ O O<|l O (u<|nt F) O<|zy O (u<|nt F) S<|zo<|G ⟨true,H,z [] (sR O O) L E⟩)
  exact l A (u<|nt D) O (l O (u<|nt D) O<|l O (u<|nt D) O<|l O (u<|nt D) O<|l O (u<|nt D) O<|l O (u<|nt D) O<|l O (u<|nt D) O<|zy O (u<|nt D) S<|J A<|l A O O<|l O O O<|l O O O<|zJ A O<|zJ O O<|zJ O O<|zJ O O<|zJ O O<|zJ O O<|zJ O O<|zJ O O<|zJ O O<|zJ O O<|zJ O O<|zJ O O<|l O O O<|zy O O S<|zo<|G ⟨true,H,z [] (sR O O) L E⟩)
 exact zg A f (ar<|t<|t<|aC<|G ⟨(),H,z [] N L E⟩)
theorem XY{C:Int}{r:Bool}(H:ZL C=some r):Fn Tryz.prog 116 (lent [.int .i64 C]) true [.bool r]:=by
 refine ac zKm O (B (z [] (kv 0 (oI C) O O N) L E)<|j<|J S<|Y<|j<|J O ?_);obtain⟨D,F,H⟩:=zj H;refine zD (u:=oB D) S R (YY F) (Ec A<|Ec S<|Ec S En) (Vc Vp<|Vc Vp<|Vc Vp Vn) O (J A<|Y<|K ?_);cases H;exact eE O O
theorem JN{C:zu}{r:zm}(H:jL C=some r):Fn Tryz.prog 108 (lent [.agg (zk C)]) true [.agg (zd r)]:=by
 refine ac zKr O (B (z [] (kv 0 (.agg<|zW C) O O N) L E)<|j<|jb (n:=64) (m:=4) (cs:=zW C) O A O O nZ<|y8 (n:=128) (m:=2) O O (nR O)<|Y<|j<|zf (m:=1) O O<|zn (q:=1) (c:=Z C.Lo) A (s O) O O<|zf (m:=2) O O<|zn (q:=2) (c:=Z C.Hi) A (s O) O O<|XT (cs:=[Z C.Lo,Z C.Hi]) (qL O<|qL A QF) O<|zR (es:=[Z C.Lo,Z C.Hi]) O A O O bZ O<|Y<|K ?_);cases H;exact qE (p (jp (es:=[Z C.Lo,Z C.Hi]) O bZ O) (bn (ds:=[.int .i64 C.Lo,.int .i64 C.Hi]) O O) aA) List.nodup_nil
theorem zcK{D:Int}{r:Bool}(H:Ja D=some r):Fn Tryz.prog 293 (lent [.int .i64 D]) true [.bool r]:=by
 refine ac zKp O (B (z [] (kv 0 (oI D) O O N) L E)<|j<|J S<|Y<|j<|J O<|Xv A S<|J A ?_);obtain⟨C,H⟩|⟨C,H⟩:=ab H
 ·refine l A C O (l O C O<|zy O C S<|J A<|Y<|K ?_);cases H;exact eE O O
 refine T A C (J O<|T O C<|Xv A S<|zI O C A<|J A<|Y<|K ?_);cases H;exact eE O O
theorem zjd{C:Int}{D:Int}{r:Int}(H:X4 C D=some r):Fn Tryz.prog 159 (lent [.int .i64 C,.int .i64 D]) true [.int .i64 r]:=by
 refine ac zKt O (B (z [] (kv 0 (oI C) O O<|kv 1 (oI D) O O N) L E)<|j<|J S<|Y<|aS<|j<|J O<|J O<|zbh O A<|Y ?_);obtain⟨F,H⟩|⟨F,H⟩:=ab H
 ·refine zh A F (j<|J O<|J A<|Y<|K<|W ?_);cases H;exact eE O O
 refine zg A F (Q<|G<|j<|J O<|J A<|Y<|K ?_);cases H;exact eE O O
theorem ziY{C:Int}{D:Int}{r:Int}(H:X2 C D=some r):Fn Tryz.prog 214 (lent [.int .i64 C,.int .i64 D]) true [.int .i64 r]:=by
 refine ac zKH O (B (z [] (kv 0 (oI C) O O<|kv 1 (oI D) O O N) L E)<|j<|J S<|Y<|aS<|j<|J O<|J O<|qj O A<|Y ?_);obtain⟨F,H⟩|⟨F,H⟩:=ab H
 ·refine zh A F (j<|J O<|J A<|Y<|K<|W ?_);cases H;exact eE O O
 refine zg A F (Q<|G<|j<|J O<|J A<|Y<|K ?_);cases H;exact eE O O
theorem zbq{F:zm}{M:zm}{r:(zm×Bool)}(H:ZV F M=some r):Fn Tryz.prog 107 (lent [.agg (zd F),.agg<|zd M]) true [.agg (zd r.1),.bool r.2]:=by
 refine ac zLA O (B (z [] (kv 0 (.agg [Z F.Lo,Z F.Hi]) O O<|kv 1 (.agg [Z M.Lo,Z M.Hi]) O O N) L E)<|j<|jb (n:=128) (m:=2) (cs:=[Z F.Lo,Z F.Hi]) O A O O nZ<|jb (n:=192) (m:=2) (cs:=[Z M.Lo,Z M.Hi]) O O O O (nR O)<|y8 (n:=256) (m:=2) O O (nR O)<|J S<|Y<|aS<|aF<|zf (m:=0) O O<|zn (q:=0) (c:=Z F.Lo) A (hB O<|s O) O O<|zf (m:=0) O O<|zn (q:=0) (c:=Z M.Lo) A (hB O<|s O) O O ?_);obtain⟨P,h,H⟩:=zj H;refine zD (u:=oI P) S R (zjd h) (Ec O<|Ec A En) (Vc Vp<|Vc Vp Vn) O (zf (m:=1) O O<|zn (q:=1) (c:=Z F.Hi) A (hB O<|s O) O O<|zf (m:=1) O O<|zn (q:=1) (c:=Z M.Hi) A (hB O<|s O) O O ?_);obtain⟨U,i,H⟩:=zj H;refine zD (u:=oI U) S R (ziY i) (Ec O<|Ec A En) (Vc Vp<|Vc Vp Vn) O (XT (cs:=[Z P,Z U]) (qL O<|qL A QF) O<|y8 (n:=384) (m:=2) O O (hN<|nR O)<|zR (es:=[Z P,Z U]) A O O O bZ O<|Y<|B (z [] (kr 6 O O<|kr 4 O O<|kr 3 O O<|kr 2 O O N) (o O)<|I (n:=384) O bZ O O<|I (n:=256) O (s O) O O<|I (n:=192) O (s O) O O<|I (n:=128) O (s O) O O E)<|aS<|zH (fun X:Bool=>(Zh P U) X=some r) (fun X=>mk [(4,.one<|.ptr<|.nm 256 0 0),(6,.one<|.ptr<|.nm 384 0 0),(30,oB X)] [(256,.vars 2 [Z 0,Z 0]),(384,.vars 2 [Z P,Z U])] noG) ?_ ?_)
 ·intro X H;obtain⟨a,H⟩|⟨a,H⟩:=aa H
  ·refine zh O a (j<|XT (cs:=[Z 0,Z 0]) QF O<|zR (es:=[Z 0,Z 0]) O A O O bZ O<|J S<|Y<|K<|W ?_);cases H;exact qE (p (jp (es:=[Z 0,Z 0]) O bZ O) (bn (ds:=[.int .i64 0,.int .i64 0]) O O)<|p (w A) (am O) aA) List.nodup_nil
  refine zg O a (Q<|G<|j<|zL (es:=[Z P,Z U]) O (s O) O<|zR (es:=[Z P,Z U]) O A O O bZ O<|J S<|Y<|K ?_);cases H;exact qE (p (jp (es:=[Z P,Z U]) O bZ O) (bn (ds:=[.int .i64 P,.int .i64 U]) O O)<|p (w A) (am O) aA) List.nodup_nil
 refine aR (zL (es:=[Z F.Lo,Z F.Hi]) O (s O) O ?_);obtain⟨b,d,H⟩:=zj H;refine zD (u:=oB b) S R (jU d) (Ec A En) (Vc (q O) Vn) O (qH A<|J A ?_);obtain⟨C,H⟩|⟨C,H⟩:=aa H
 ·refine T A (u C) (zL (es:=[Z M.Lo,Z M.Hi]) O (s O) O<|T O (u C) ?_);obtain⟨e,f,H⟩:=zj H;refine zD (u:=oB e) S R (jU f) (Ec A En) (Vc (q O) Vn) O (T O (u C)<|qH A<|zI O (u C) A<|J A ?_);obtain⟨D,H⟩|⟨D,H⟩:=aa H
  ·refine T A (u D) (zL (es:=[Z P,Z U]) O bZ O<|T O (u D) ?_);obtain⟨V,g,H⟩:=zj H;exact zD (u:=oB V) S R (jU g) (Ec A En) (Vc (q O) Vn) O (T O (u D)<|qH A<|zI O (u D) A<|zo<|G ⟨!V,H,z [192,128] (sR O O) (o O)<|bkR O O O⟩)
  exact l A (u D) O (l O (u D) O<|l O (u D) O<|zy O (u D) S<|zo<|G ⟨true,H,z [192,128] (sR O O) (o O)<|bkR O O O⟩)
 exact l A (u C) O (l O (u C) O<|l O (u C) O<|zy O (u C) S<|J A<|l A O O<|l O O O<|l O O O<|zy O O S<|zo<|G ⟨true,H,z [192,128] (sR O O) (o O)<|bkR O O O⟩)
theorem zct{I:zu}{M:zu}{r:Bool}(H:Qh I M=some r):Fn Tryz.prog 294 (lent [.agg (zk I),.agg<|zk M]) true [.bool r]:=by
 refine ac f294 O (B (z [] (kv 0 (.agg<|zW I) O O<|kv 1 (.agg<|zW M) O O N) L E)<|j<|jb (n:=128) (m:=4) (cs:=zW I) O A O O nZ<|jb (n:=192) (m:=4) (cs:=zW M) O O O O (nR O)<|J S<|Y<|aS<|aF<|zL (es:=zW I) O (hB O<|s O) O ?_);obtain⟨P,U,H⟩:=zj H;refine zD (u:=.agg [Z P.Lo,Z P.Hi]) S R (JN U) (Ec A En) (Vc (q O) Vn) O (zL (es:=zW M) O (hB O bZ) O ?_);obtain⟨Q,V,H⟩:=zj H;refine zD (u:=.agg [Z Q.Lo,Z Q.Hi]) S R (JN V) (Ec A En) (Vc (q O) Vn) O ?_;obtain⟨G,W,H⟩:=zj H;refine zD (u:=.tup [.agg [Z G.1.Lo,Z G.1.Hi],oB G.2]) S R (zbq W) (Ec O<|Ec A En) (Vc (q O)<|Vc (q O) Vn) O (J A<|Kv (v:=.agg [Z G.1.Lo,Z G.1.Hi]) A O<|Kv (v:=oB G.2) O O<|y8 (n:=320) (m:=2) O O (hN<|nR O)<|zR (es:=[Z G.1.Lo,Z G.1.Hi]) A O O O bZ O<|J O<|Y<|j<|J A<|J A ?_);obtain⟨F,H⟩|⟨F,H⟩:=aa H
 ·refine T A F (zf (m:=0) O O<|T O F<|zn (q:=0) (c:=Z I.Tx) A (s O) O O<|T O F<|zf (m:=0) O O<|T O F<|zn (q:=0) (c:=Z M.Tx) A (s O) O O<|T O F<|Qa O A<|zy O F A<|J A ?_);obtain⟨C,H⟩|⟨C,H⟩:=ab H
  ·refine T A C (zf (m:=3) O O<|T O C<|zn (q:=3) (c:=Z I.Mode) A (s O) O O<|T O C<|Xv A S<|T O C<|J A ?_);obtain⟨D,H⟩|⟨D,H⟩:=zB H
   ·refine l A (dT D) O (l O (dT D) O<|l O (dT D) O<|T O C<|zy O (dT D) S<|zy O C A<|J A<|Y<|B (z [320,192,128] (kr 4 O O N) (o O) E)<|K ?_);cases H;exact eE O O
   refine T A (dF D) (zf (m:=3) O O<|T O (dF D)<|zn (q:=3) (c:=Z M.Mode) A (s O) O O<|T O (dF D)<|Xv A S<|T O C<|zI O (dF D) A<|zy O C A<|J A<|Y<|B (z [320,192,128] (kr 4 O O N) (o O) E)<|K ?_);cases H;exact eE O O
  refine l A C O (l O C O<|l O C O<|l O C O<|zJ A O<|zJ O O<|zJ O O<|l O C O<|zI O C S<|J A<|Y<|B (z [320,192,128] (kr 4 O O N) (o O) E)<|K ?_);cases H;exact eE O O
 refine l A F O (l O F O<|l O F O<|l O F O<|l O F O<|zI O F S<|J A<|l A O O<|l O O O<|l O O O<|l O O O<|zJ A O<|zJ O O<|zJ O O<|l O O O<|zI O O S<|J A<|Y<|B (z [320,192,128] (kr 4 O O N) (o O) E)<|K ?_);cases H;exact eE O O
theorem zc1{F:List zu}{r:Bool}(H:Jh F=some r):Fn Tryz.prog 219 (lent [.sl 4 (F.map zk)]) true [.bool r]:=by
 refine ac zLb O (B (z [] (kv 0 (.one<|.d<|.sl 4<|F.map zk) O O N) L E)<|j<|J S<|Y<|aS<|j<|J O<|zY A (n:=F.length) lm<|zbh A S<|Y ?_);obtain⟨g,H⟩|⟨g,H⟩:=ab H
 ·refine zh A g (j<|J S<|Y<|K<|W ?_);cases H;exact eE O O
 refine zg A g (Q<|G<|zH (fun h:Unit=>K0 h=some r) (fun h=>mk [] [] noG) ?_ ?_)
 ·intro h H;refine j (J S<|Y<|K ?_);cases H;exact eE O O
 refine j (J S<|Y<|U<|au (fun I:Int=>mk [(0,.one<|.d<|.sl 4<|F.map zk),(3,oI I)] [] noG) H (z [] (sR O O) L E) ?_);intro b I H;refine aS (j<|J O<|J O<|zY A (n:=F.length) lm<|qj O A<|Y ?_);obtain⟨i,H⟩|⟨i,H⟩:=ab H
 ·refine zh A i (Q<|G<|zH (fun k:Unit=>(Zq b I) k=some r) (fun k=>mk [(0,.one<|.d<|.sl 4<|F.map zk),(3,oI I)] [] noG) ?_ ?_)
  ·intro k H;exact aR (J O<|qf A S<|J A<|zo<|G ⟨IntKind.wrap .i64 (I+1),H,z [] (sR O O) L E⟩)
  refine U (aS<|zH (fun M:Bool=>(ZP I F<|Zq b I) M=some r) (fun M=>mk [(0,.one<|.d<|.sl 4<|F.map zk),(3,oI I),(38,oB M)] [] noG) ?_ ?_)
  ·intro M H;obtain⟨P,H⟩|⟨P,H⟩:=aa H
   ·refine zh O P (j<|J S<|Y<|K<|W<|av<|W<|W<|av<|W ?_);cases H;exact eE O O
   refine zg O P (Q<|G<|j<|J S<|Y<|U<|au (fun V:Int=>mk [(0,.one<|.d<|.sl 4<|F.map zk),(3,oI I),(4,oI V)] [] noG) H (z [] (sR O O) L E) ?_);intro ag V H;refine aS (j<|J O<|J O<|qj O A<|Y ?_);obtain⟨X,H⟩|⟨X,H⟩:=zB H
   ·refine zh A (dT X) (Q<|G<|aS<|U<|aS<|aF<|J O<|J O ?_);obtain⟨o,p,H⟩:=zj H;refine qm O A p (qc (es:=zW o) A O<|J O<|J O ?_);obtain⟨s,v,H⟩:=zj H;refine qm O A v (qc (es:=zW s) A O ?_);obtain⟨w,x,H⟩:=zj H;refine zD (u:=oB w) S R (zct x) (Ec O<|Ec A En) (Vc (q O)<|Vc (q O) Vn) O (Y ?_);obtain⟨a,H⟩|⟨a,H⟩:=zB H
    ·refine zh A a (j<|J S<|Y<|B (z [] (kr 2 O O N) L E)<|K<|av<|W<|W<|av<|av<|W<|W<|av<|W ?_);cases H;exact eE O O
    exact zg A (nt a) (Q<|aB<|G<|aR<|J O<|qf A S<|J A<|zo<|G ⟨IntKind.wrap .i64 (V+1),H,z [] (sR O O) L E⟩)
   exact zg A (dF X) (ar<|t<|t<|aC<|aB<|G ⟨(),H,z [] (sR O O) L E⟩)
  refine aR (J O<|J O ?_);obtain⟨y,a2,H⟩:=zj H;refine qm O A a2 (qb (m:=0) A O<|zZ (e:=.int .i64 y.Tx) A O ?_);obtain⟨a3,a4,H⟩:=zj H;refine zD (u:=oB a3) S R (XY a4) (Ec A En) (Vc Vp Vn) O (qH A<|J A ?_);obtain⟨C,H⟩|⟨C,H⟩:=zB H
  ·refine T A (u C) (J O<|T O (u C)<|J O<|T O (u C) ?_);obtain⟨a5,a6,H⟩:=zj H;refine qm O A a6 (T O (u C)<|qc (es:=zW a5) A O<|T O (u C) ?_);obtain⟨c,a7,H⟩:=zj H;refine zD (u:=.agg [Z c.Lo,Z c.Hi]) S R (JN a7) (Ec A En) (Vc (q O) Vn) O (T O (u C) ?_);obtain⟨a8,a9,H⟩:=zj H;refine zD (u:=oB a8) S R (jU a9) (Ec A En) (Vc (q O) Vn) O (T O (u C)<|qH A<|zI O (u C) A<|J A ?_);obtain⟨D,H⟩|⟨D,H⟩:=zB H
   ·refine T A (u D) (J O<|T O (u D)<|J O<|T O (u D) ?_);obtain⟨ad,ae,H⟩:=zj H;refine qm O A ae (T O (u D)<|qb (m:=3) A O<|T O (u D)<|zZ (e:=.int .i64 ad.Mode) A O<|T O (u D) ?_);obtain⟨f,af,H⟩:=zj H;exact zD (u:=oB f) S R (zcK af) (Ec A En) (Vc Vp Vn) O (T O (u D)<|qH A<|zI O (u D) A<|zo<|G ⟨!f,H,z [] (sR O O) L E⟩)
   exact l A (u<|nt D) O (l O (u<|nt D) O<|l O (u<|nt D) O<|l O (u<|nt D) O<|l O (u<|nt D) O<|l O (u<|nt D) O<|l O (u<|nt D) O<|zy O (u<|nt D) S<|zo<|G ⟨true,H,z [] (sR O O) L E⟩)
  exact l A (u<|nt C) O (l O (u<|nt C) O<|l O (u<|nt C) O<|l O (u<|nt C) O<|l O (u<|nt C) O<|l O (u<|nt C) O<|l O (u<|nt C) O<|zy O (u<|nt C) S<|J A<|l A O O<|l O O O<|l O O O<|l O O O<|l O O O<|l O O O<|l O O O<|zy O O S<|zo<|G ⟨true,H,z [] (sR O O) L E⟩)
 exact zg A i (ar<|t<|t<|aC<|G ⟨(),H,z [] N L E⟩)
theorem zdM{F:List Int}{r:Bool}(H:J4 F=some r):Fn Tryz.prog 220 (lent [.sl 1 (F.map zl)]) true [.bool r]:=by
 refine ac zL9 O (B (z [] (kv 0 (.one<|.d<|.sl 1<|F.map zl) O O N) L E)<|j<|J S<|Y<|zH (fun X:Unit=>zaD X=some r) (fun X=>mk [] [] noG) ?_ ?_)
 ·intro X H;refine j (J S<|Y<|K ?_);cases H;exact eE O O
 refine j (J S<|Y<|U<|au (fun I:Int=>mk [(0,.one<|.d<|.sl 1<|F.map zl),(3,oI I)] [] noG) H (z [] (sR O O) L E) ?_);intro Z I H;refine aS (j<|J O<|J O<|zY A (n:=F.length) lm<|qj O A<|Y ?_);obtain⟨a,H⟩|⟨a,H⟩:=ab H
 ·refine zh A a (Q<|G<|aS<|U<|zH (fun V:Bool=>(QV Z I) V=some r) (fun V=>mk [(0,.one<|.d<|.sl 1<|F.map zl),(3,oI I),(31,oB V)] [] noG) ?_ ?_)
  ·intro V H;obtain⟨b,H⟩|⟨b,H⟩:=aa H
   ·refine zh O b (j<|J S<|Y<|K<|av<|W<|W<|av<|W ?_);cases H;exact eE O O
   exact zg O b (Q<|aB<|G<|aR<|J O<|qf A S<|J A<|zo<|G ⟨IntKind.wrap .i64 (I+1),H,z [] (sR O O) L E⟩)
  refine aF (J O<|J O ?_);obtain⟨c,f,H⟩:=zj H;refine qm O A f (zZ (e:=.int .i64 c) A O ?_);obtain⟨g,h,H⟩:=zj H;refine zD (u:=oB g) S R (XY h) (Ec A En) (Vc Vp Vn) O (qH A<|J A ?_);obtain⟨D,H⟩|⟨D,H⟩:=aa H
  ·refine T A (u D) (J O<|T O (u D)<|zbh A S<|T O (u D)<|J A ?_);obtain⟨C,H⟩|⟨C,H⟩:=ab H
   ·refine T A C (J O<|T O C<|J O<|T O C<|zbR A S<|T O C ?_);obtain⟨M,i,H⟩:=zj H;refine qm O A i (T O C<|zZ (e:=.int .i64 M) A O<|T O C<|J O<|T O C<|J O<|T O C ?_);obtain⟨P,k,H⟩:=zj H;exact qm O A k (T O C<|zZ (e:=.int .i64 P) A O<|T O C<|zaa O A<|T O (u D)<|zy O C A<|zI O (u D) A<|zo<|G ⟨decide (P≤M),H,z [] (sR O O) L E⟩)
   exact l A C O (l O C O<|l O C O<|l O C O<|l O C O<|l O C O<|l O C O<|l O C O<|l O C O<|l O C O<|T O (u D)<|zI O C S<|zI O (u D) A<|zo<|G ⟨false,H,z [] (sR O O) L E⟩)
  exact l A (u D) O (l O (u D) O<|l O (u D) O<|zJ A O<|zJ O O<|zJ O O<|zJ O O<|zJ O O<|zJ O O<|zJ O O<|zJ O O<|zJ O O<|zJ O O<|l O (u D) O<|zy O (u D) S<|zo<|G ⟨true,H,z [] (sR O O) L E⟩)
 exact zg A a (ar<|t<|t<|aC<|G ⟨(),H,z [] N L E⟩)
theorem Yd{M:List zm}{D:zm}{r:Bool}(H:jR M D=some r):Fn Tryz.prog 82 (lent [.sl 2 (M.map zd),.agg<|zd D]) true [.bool r]:=by
 refine ac f82 O (B (z [] (kv 0 (.one<|.d<|.sl 2<|M.map zd) O O<|kv 1 (.agg [Z D.Lo,Z D.Hi]) O O N) L E)<|j<|jb (n:=192) (m:=2) (cs:=[Z D.Lo,Z D.Hi]) O O O O nZ<|J S<|Y<|aS<|zH (fun g:Bool=>(yu M D) g=some r) (fun g=>mk [(0,.one<|.d<|.sl 2<|M.map zd),(3,.one<|.ptr<|.nm 192 0 0),(14,oB g)] [(192,.vars 2 [Z D.Lo,Z D.Hi])] noG) ?_ ?_)
 ·intro g H;obtain⟨i,H⟩|⟨i,H⟩:=aa H
  ·refine zh O i (j<|J S<|Y<|K<|W ?_);cases H;exact eE O O
  refine zg O i (Q<|G<|j<|zf (m:=0) O O<|zn (q:=0) (c:=Z D.Lo) A bZ O O<|J A<|Y<|zH (fun h:Int=>(JL D) h=some r) (fun h=>mk [(3,.one<|.ptr<|.nm 192 0 0),(5,oI h)] [(192,.vars 2 [Z D.Lo,Z D.Hi])] noG) ?_ ?_)
  ·intro h H;refine j (J O<|zf (m:=1) O O<|zn (q:=1) (c:=Z D.Hi) A bZ O O<|zaa O A<|J A<|Y<|K ?_);cases H;exact eE O O
  refine j (J S<|Y<|U<|au (fun I:(Int×Int)=>mk [(0,.one<|.d<|.sl 2<|M.map zd),(3,.one<|.ptr<|.nm 192 0 0),(5,oI I.1),(6,oI I.2)] [(192,.vars 2 [Z D.Lo,Z D.Hi])] noG) H (z [] (sR O O) (o O)<|bkR O O O) ?_);intro k I H;refine aS (j<|J O<|J O<|zY A (n:=M.length) lm<|qj O A<|Y ?_);obtain⟨V,H⟩|⟨V,H⟩:=ab H
  ·refine zh A V (Q<|G<|aS<|U<|zH (fun P:Bool=>(ZD M I k) P=some r) (fun P=>mk [(0,.one<|.d<|.sl 2<|M.map zd),(3,.one<|.ptr<|.nm 192 0 0),(5,oI I.1),(6,oI I.2),(38,oB P)] [(192,.vars 2 [Z D.Lo,Z D.Hi])] noG) ?_ ?_)
   ·intro P H;obtain⟨X,H⟩|⟨X,H⟩:=aa H
    ·refine zh O X (aR<|J A<|J O ?_);obtain⟨a,p,H⟩:=zj H;exact qm O A p (qb (m:=1) A O<|zZ (e:=.int .i64 a.Hi) A O<|J A<|zo<|aB<|G<|aR<|J O<|qf A S<|J A<|zo<|G ⟨(a.Hi,IntKind.wrap .i64 (I.2+1)),H,z [] (sR O O) (o O)<|bkR O O O⟩)
    exact zg O X (Q<|aB<|G<|aR<|J O<|qf A S<|J A<|zo<|G ⟨(I.1,IntKind.wrap .i64 (I.2+1)),H,z [] (sR O O) (o O)<|bkR O O O⟩)
   refine aR (J O<|J O ?_);obtain⟨s,v,H⟩:=zj H;refine qm O A v (qb (m:=0) A O<|zZ (e:=.int .i64 s.Lo) A O<|J O<|zcA O A<|J A ?_);obtain⟨C,H⟩|⟨C,H⟩:=ab H
   ·refine T A C (J O<|T O C<|J O<|T O C<|J O<|T O C ?_);obtain⟨b,w,H⟩:=zj H;exact qm O A w (T O C<|qb (m:=1) A O<|T O C<|zZ (e:=.int .i64 b.Hi) A O<|T O C<|qj O A<|zy O C A<|zo<|G ⟨decide (I.1 < b.Hi),H,z [] (sR O O) (o O)<|bkR O O O⟩)
   exact l A C O (l O C O<|l O C O<|l O C O<|l O C O<|l O C O<|l O C O<|zI O C S<|zo<|G ⟨false,H,z [] (sR O O) (o O)<|bkR O O O⟩)
  exact zg A V (ar<|t<|t<|aC<|G ⟨I.1,H,z [] (sR O O) (o O)<|bkR O O O⟩)
 refine aR (J O ?_);obtain⟨x,y,H⟩:=zj H;refine zD (u:=oB x) S R (K4 y) (Ec A En) (Vc Vp Vn) O (qH A<|J A ?_);obtain⟨F,H⟩|⟨F,H⟩:=zB H
 ·refine T A (u F) (zL (es:=[Z D.Lo,Z D.Hi]) O bZ O<|T O (u F) ?_);obtain⟨f,a3,H⟩:=zj H;exact zD (u:=oB f) S R (jU a3) (Ec A En) (Vc (q O) Vn) O (T O (u F)<|qH A<|zI O (u F) A<|zo<|G ⟨!f,H,z [] (sR O O) (o O)<|bkR O O O⟩)
 exact l A (u<|nt F) O (l O (u<|nt F) O<|l O (u<|nt F) O<|zy O (u<|nt F) S<|zo<|G ⟨true,H,z [] (sR O O) (o O)<|bkR O O O⟩)
theorem zdE{C:Int}{r:zm}(H:ko C=some r):Fn Tryz.prog 221 (lent [.int .i64 C]) true [.agg (zd r)]:=by
 refine ac zLD O (B (z [] (kv 0 (oI C) O O N) L E)<|j<|y8 (n:=128) (m:=2) O O nZ<|Y<|j<|J O<|J O<|qf A S<|XT (cs:=[Z C,Z<|IntKind.wrap .i64 (C+1)]) (qL O<|qL A QF) O<|zR (es:=[Z C,Z<|IntKind.wrap .i64 (C+1)]) O A O O bZ O<|Y<|K ?_);cases H;exact qE (p (jp (es:=[Z C,Z<|IntKind.wrap .i64 (C+1)]) O bZ O) (bn (ds:=[.int .i64 C,.int .i64<|IntKind.wrap .i64 (C+1)]) O O) aA) List.nodup_nil
theorem ZO{D:List Int}{F:Int}{r:Bool}(H:j3 D F=some r):Fn Tryz.prog 117 (lent [.sl 1 (D.map zl),.int .i64 F]) true [.bool r]:=by
 refine ac zKu O (B (z [] (kv 0 (.one<|.d<|.sl 1<|D.map zl) O O<|kv 1 (oI F) O O N) L E)<|j<|J S<|Y<|zH (fun I:Unit=>Xx I=some r) (fun I=>mk [] [] noG) ?_ ?_)
 ·intro I H;refine j (J S<|Y<|K ?_);cases H;exact eE O O
 refine j (J S<|Y<|U<|au (fun M:Int=>mk [(0,.one<|.d<|.sl 1<|D.map zl),(1,oI F),(5,oI M)] [] noG) H (z [] (sR O O) L E) ?_);intro R M H;refine aS (j<|J O<|J O<|zY A (n:=D.length) lm<|qj O A<|Y ?_);obtain⟨P,H⟩|⟨P,H⟩:=ab H
 ·refine zh A P (Q<|G<|aS<|U<|j<|J O<|J O ?_);obtain⟨T,V,H⟩:=zj H;refine qm O A V (zZ (e:=.int .i64 T) A O<|J O<|Xv O A<|Y ?_);obtain⟨C,H⟩|⟨C,H⟩:=ab H
  ·refine zh A C (j<|J S<|Y<|K<|av<|W<|W<|av<|W ?_);cases H;exact eE O O
  exact zg A C (Q<|aB<|G<|aR<|J O<|qf A S<|J A<|zo<|G ⟨IntKind.wrap .i64 (M+1),H,z [] (sR O O) L E⟩)
 exact zg A P (ar<|t<|t<|aC<|G ⟨(),H,z [] N L E⟩)
theorem KY{I:List zr}{r:Bool}(H:Zo I=some r):Fn Tryz.prog 224 (lent [.sl 2 (I.map zi)]) true [.bool r]:=by
 refine ac zK7 O (B (z [] (kv 0 (.one<|.d<|.sl 2<|I.map zi) O O N) L E)<|j<|J S<|Y<|aS<|j<|J O<|zY A (n:=I.length) lm<|zbh A S<|Y ?_);obtain⟨a,H⟩|⟨a,H⟩:=ab H
 ·refine zh A a (j<|J S<|Y<|K<|W ?_);cases H;exact eE O O
 refine zg A a (Q<|G<|zH (fun b:Unit=>Kc b=some r) (fun b=>mk [] [] noG) ?_ ?_)
 ·intro b H;refine j (J S<|Y<|K ?_);cases H;exact eE O O
 refine j (J S<|Y<|U<|au (fun P:Int=>mk [(0,.one<|.d<|.sl 2<|I.map zi),(3,oI P)] [] noG) H (z [] (sR O O) L E) ?_);intro c P H;refine aS (j<|J O<|J O<|zY A (n:=I.length) lm<|qj O A<|Y ?_);obtain⟨f,H⟩|⟨f,H⟩:=ab H
 ·refine zh A f (Q<|G<|aS<|U<|zH (fun Z:Bool=>(yR c P) Z=some r) (fun Z=>mk [(0,.one<|.d<|.sl 2<|I.map zi),(3,oI P),(46,oB Z)] [] noG) ?_ ?_)
  ·intro Z H;obtain⟨M,H⟩|⟨M,H⟩:=aa H
   ·refine zh O M (j<|J S<|Y<|K<|av<|W<|W<|av<|W ?_);cases H;exact eE O O
   exact zg O M (Q<|aB<|G<|aR<|J O<|qf A S<|J A<|zo<|G ⟨IntKind.wrap .i64 (P+1),H,z [] (sR O O) L E⟩)
  refine aF (J O<|J O ?_);obtain⟨g,h,H⟩:=zj H;refine qm O A h (qb (m:=0) A O<|zZ (e:=.int .i64 g.Key) A O ?_);obtain⟨i,k,H⟩:=zj H;refine zD (u:=oB i) S R (zdK k) (Ec A En) (Vc Vp Vn) O (qH A<|J A ?_);obtain⟨D,H⟩|⟨D,H⟩:=zB H
  ·refine T A (u D) (J O<|T O (u D)<|J O<|T O (u D) ?_);obtain⟨o,p,H⟩:=zj H;refine qm O A p (T O (u D)<|qb (m:=1) A O<|T O (u D)<|zZ (e:=.int .i64 o.Value) A O<|T O (u D) ?_);obtain⟨q,s,H⟩:=zj H;refine zD (u:=oB q) S R (YY s) (Ec A<|Ec S<|Ec S En) (Vc Vp<|Vc Vp<|Vc Vp Vn) O (T O (u D)<|qH A<|zI O (u D) A<|J A ?_);obtain⟨F,H⟩|⟨F,H⟩:=zB H
   ·refine T A (u F) (J O<|T O (u F)<|zbh A S<|T O (u F)<|J A ?_);obtain⟨C,H⟩|⟨C,H⟩:=zB H
    ·refine T A (dT C) (J O<|T O (dT C)<|J O<|T O (dT C)<|zbR A S<|T O (dT C) ?_);obtain⟨V,v,H⟩:=zj H;refine qm O A v (T O (dT C)<|qb (m:=0) A O<|T O (dT C)<|zZ (e:=.int .i64 V.Key) A O<|T O (dT C)<|J O<|T O (dT C)<|J O<|T O (dT C) ?_);obtain⟨X,w,H⟩:=zj H;exact qm O A w (T O (dT C)<|qb (m:=0) A O<|T O (dT C)<|zZ (e:=.int .i64 X.Key) A O<|T O (dT C)<|zaa O A<|T O (u F)<|zy O (dT C) A<|zI O (u F) A<|zo<|G ⟨decide (X.Key≤V.Key),H,z [] (sR O O) L E⟩)
    exact l A (dF C) O (l O (dF C) O<|l O (dF C) O<|l O (dF C) O<|l O (dF C) O<|l O (dF C) O<|l O (dF C) O<|l O (dF C) O<|l O (dF C) O<|l O (dF C) O<|l O (dF C) O<|l O (dF C) O<|T O (u F)<|zI O (dF C) S<|zI O (u F) A<|zo<|G ⟨false,H,z [] (sR O O) L E⟩)
   exact l A (u<|nt F) O (l O (u<|nt F) O<|l O (u<|nt F) O<|zJ A O<|zJ O O<|zJ O O<|zJ O O<|zJ O O<|zJ O O<|zJ O O<|zJ O O<|zJ O O<|zJ O O<|zJ O O<|zJ O O<|l O (u<|nt F) O<|zy O (u<|nt F) S<|zo<|G ⟨true,H,z [] (sR O O) L E⟩)
  exact l A (u<|nt D) O (l O (u<|nt D) O<|l O (u<|nt D) O<|l O (u<|nt D) O<|l O (u<|nt D) O<|l O (u<|nt D) O<|l O (u<|nt D) O<|zy O (u<|nt D) S<|J A<|l A O O<|l O O O<|l O O O<|zJ A O<|zJ O O<|zJ O O<|zJ O O<|zJ O O<|zJ O O<|zJ O O<|zJ O O<|zJ O O<|zJ O O<|zJ O O<|zJ O O<|l O O O<|zy O O S<|zo<|G ⟨true,H,z [] (sR O O) L E⟩)
 exact zg A f (ar<|t<|t<|aC<|G ⟨(),H,z [] N L E⟩)
theorem zg9{F:zm}{G:zm}{r:Bool}(H:YG F G=some r):Fn Tryz.prog 313 (lent [.agg (zd F),.agg<|zd G]) true [.bool r]:=by
 refine ac zMh O (B (z [] (kv 0 (.agg [Z F.Lo,Z F.Hi]) O O<|kv 1 (.agg [Z G.Lo,Z G.Hi]) O O N) L E)<|j<|jb (n:=128) (m:=2) (cs:=[Z F.Lo,Z F.Hi]) O A O O nZ<|jb (n:=192) (m:=2) (cs:=[Z G.Lo,Z G.Hi]) O O O O (nR O)<|J S<|Y<|j<|zL (es:=[Z F.Lo,Z F.Hi]) O (s O) O ?_);obtain⟨M,P,H⟩:=zj H;refine zD (u:=oB M) S R (jU P) (Ec A En) (Vc (q O) Vn) O (J A ?_);obtain⟨I,H⟩|⟨I,H⟩:=aa H
 ·refine T A I (zL (es:=[Z G.Lo,Z G.Hi]) O bZ O<|T O I ?_);obtain⟨Q,U,H⟩:=zj H;refine zD (u:=oB Q) S R (jU U) (Ec A En) (Vc (q O) Vn) O (zy O I A<|J A ?_);obtain⟨C,H⟩|⟨C,H⟩:=aa H
  ·refine T A C (zf (m:=0) O O<|T O C<|zn (q:=0) (c:=Z F.Lo) A (s O) O O<|T O C<|zf (m:=0) O O<|T O C<|zn (q:=0) (c:=Z G.Lo) A bZ O O<|T O C<|zaa O A<|zy O C A<|J A ?_);obtain⟨D,H⟩|⟨D,H⟩:=ab H
   ·refine T A D (zf (m:=1) O O<|T O D<|zn (q:=1) (c:=Z F.Hi) A (s O) O O<|T O D<|zf (m:=1) O O<|T O D<|zn (q:=1) (c:=Z G.Hi) A bZ O O<|T O D<|zcA O A<|zy O D A<|J A<|Y<|B (z [192,128] (kr 4 O O N) (o O) E)<|K ?_);cases H;exact eE O O
   refine l A D O (l O D O<|l O D O<|l O D O<|l O D O<|zI O D S<|J A<|Y<|B (z [192,128] (kr 4 O O N) (o O) E)<|K ?_);cases H;exact eE O O
  refine l A C O (l O C O<|l O C O<|l O C O<|l O C O<|zI O C S<|J A<|l A O O<|l O O O<|l O O O<|l O O O<|l O O O<|zI O O S<|J A<|Y<|B (z [192,128] (kr 4 O O N) (o O) E)<|K ?_);cases H;exact eE O O
 refine l A I O (l O I O<|zI O I S<|J A<|l A O O<|l O O O<|l O O O<|l O O O<|l O O O<|zI O O S<|J A<|l A O O<|l O O O<|l O O O<|l O O O<|l O O O<|zI O O S<|J A<|Y<|B (z [192,128] (kr 4 O O N) (o O) E)<|K ?_);cases H;exact eE O O
theorem K8{P:List zu}{X:Int}{F:zm}{V:Int}{r:Bool}(H:Zn P X F V=some r):Fn Tryz.prog 248 (lent [.sl 4 (P.map zk),.int .i64 X,.agg<|zd F,.int .i64 V]) true [.bool r]:=by
 refine ac zLd O (B (z [] (kv 0 (.one<|.d<|.sl 4<|P.map zk) O O<|kv 1 (oI X) O O<|kv 2 (.agg [Z F.Lo,Z F.Hi]) O O<|kv 3 (oI V) O O N) L E)<|j<|jb (n:=384) (m:=2) (cs:=[Z F.Lo,Z F.Hi]) O O O O nZ<|J S<|Y<|zH (fun f:Unit=>Kb f=some r) (fun f=>mk [] [] noG) ?_ ?_)
 ·intro f H;refine j (J S<|Y<|K ?_);cases H;exact eE O O
 refine j (J S<|Y<|U<|au (fun a:Int=>mk [(0,.one<|.d<|.sl 4<|P.map zk),(1,oI X),(3,oI V),(6,.one<|.ptr<|.nm 384 0 0),(9,oI a)] [(384,.vars 2 [Z F.Lo,Z F.Hi])] noG) H (z [] (sR O O) (o O)<|bkR O O O) ?_);intro g a H;refine aS (j<|J O<|J O<|zY A (n:=P.length) lm<|qj O A<|Y ?_);obtain⟨h,H⟩|⟨h,H⟩:=ab H
 ·refine zh A h (Q<|G<|aS<|U<|zH (fun I:Bool=>(Zi g a) I=some r) (fun I=>mk [(0,.one<|.d<|.sl 4<|P.map zk),(1,oI X),(3,oI V),(6,.one<|.ptr<|.nm 384 0 0),(9,oI a),(40,oB I)] [(384,.vars 2 [Z F.Lo,Z F.Hi])] noG) ?_ ?_)
  ·intro I H;obtain⟨M,H⟩|⟨M,H⟩:=aa H
   ·refine zh O M (j<|J S<|Y<|K<|av<|W<|W<|av<|W ?_);cases H;exact eE O O
   exact zg O M (Q<|aB<|G<|aR<|J O<|qf A S<|J A<|zo<|G ⟨IntKind.wrap .i64 (a+1),H,z [] (sR O O) (o O)<|bkR O O O⟩)
  refine aF (J O<|J O ?_);obtain⟨i,k,H⟩:=zj H;refine qm O A k (qb (m:=0) A O<|zZ (e:=.int .i64 i.Tx) A O<|J O<|Xv O A<|J A ?_);obtain⟨C,H⟩|⟨C,H⟩:=ab H
  ·refine T A C (zL (es:=[Z F.Lo,Z F.Hi]) O (hB O bZ) O<|T O C<|J O<|T O C<|J O<|T O C ?_);obtain⟨p,s,H⟩:=zj H;refine qm O A s (T O C<|qc (es:=zW p) A O<|T O C ?_);obtain⟨b,v,H⟩:=zj H;refine zD (u:=.agg [Z b.Lo,Z b.Hi]) S R (JN v) (Ec A En) (Vc (q O) Vn) O (T O C ?_);obtain⟨w,x,H⟩:=zj H;refine zD (u:=oB w) S R (zg9 x) (Ec O<|Ec A En) (Vc (q O)<|Vc (q O) Vn) O (zy O C A<|J A ?_);obtain⟨D,H⟩|⟨D,H⟩:=zB H
   ·refine T A D (J O<|T O D<|J O<|T O D ?_);obtain⟨c,y,H⟩:=zj H;exact qm O A y (T O D<|qb (m:=3) A O<|T O D<|zZ (e:=.int .i64 c.Mode) A O<|T O D<|J O<|T O D<|zaa O A<|zy O D A<|zo<|G ⟨decide (V≤c.Mode),H,z [] (sR O O) (o O)<|bkR O O O⟩)
   exact l A (nt D) O (l O (nt D) O<|l O (nt D) O<|l O (nt D) O<|l O (nt D) O<|l O (nt D) O<|l O (nt D) O<|zI O (nt D) S<|zo<|G ⟨false,H,z [] (sR O O) (o O)<|bkR O O O⟩)
  exact l A C O (l O C O<|l O C O<|l O C O<|l O C O<|l O C O<|l O C O<|zI O C S<|J A<|l A O O<|l O O O<|l O O O<|l O O O<|l O O O<|l O O O<|l O O O<|zI O O S<|zo<|G ⟨false,H,z [] (sR O O) (o O)<|bkR O O O⟩)
 exact zg A h (ar<|t<|t<|aC<|G ⟨(),H,z [384] N (o O) E⟩)
theorem zek{P:zt}{r:Bool}(H:Qo P=some r):Fn Tryz.prog 222 (lent [.agg (zT P)]) true [.bool r]:=by
 refine ac zKD O (B (t:=mk [(0,.agg<|zE P)] [] (lk [])) (z [] (sR O O) L E)<|j<|jb (n:=64) (m:=9) (cs:=zE P) O A O O nZ<|J S<|Y<|zH (fun t2:Unit=>Xf t2=some r) (fun t2=>mk [] [] (lk [])) ?_ ?_)
 ·intro t2 H;refine j (J S<|Y<|K ?_);cases H;exact eE O O
 refine j (J S<|Y<|U<|au (fun X:Int=>mk [(1,.one<|.ptr<|.nm 64 0 0),(3,oI X)] [(64,.vars 9<|zE P)] (lk [])) H (zG [] (sR O O) (o O) (bkR O O O) m) ?_);intro a X H;refine aS (j<|J O<|zf (m:=5) O O<|zn (q:=5) (c:=.d (.sl 2<|P.Helds.map zx)) A bZ O O<|zY A (n:=P.Helds.length) lm<|qj O A<|Y ?_);obtain⟨h6,H⟩|⟨h6,H⟩:=ab H
 ·refine zh A h6 (Q<|G<|zH (fun t7:Unit=>jg a X t7=some r) (fun t7=>mk [(1,.one<|.ptr<|.nm 64 0 0),(3,oI X)] [(64,.vars 9<|zE P)] (lk [])) ?_ ?_)
  ·intro t7 H;exact aR (J O<|qf A S<|J A<|zo<|G ⟨IntKind.wrap .i64 (X+1),H,zG [] (sR O O) (o O) (bkR O O O) m⟩)
  refine U (aS<|z7<|zC<|zf (m:=5) O O<|zo<|zC<|zn (q:=5) (c:=.d (.sl 2<|P.Helds.map zx)) A bZ O O<|zo<|zC<|J O<|zo<|zC ?_);obtain⟨V,a3,H⟩:=zj H;refine qm O A a3 (zo<|zC<|qc (es:=j6 V) A O<|zo<|zC<|y8 (n:=256) (m:=2) O O (nR O)<|zo<|zC<|zR (es:=j6 V) A O O O bZ O<|zo<|qh<|Y<|aS<|zH (fun b:Bool=>(jm V P<|jg a X) b=some r) (fun b=>mk [(1,.one<|.ptr<|.nm 64 0 0),(3,oI X),(4,.one<|.ptr<|.nm 256 0 0),(43,oB b)] [(64,.vars 9<|zE P),(256,.vars 2<|j6 V)] (lk [])) ?_ ?_)
  ·intro b H;obtain⟨g,H⟩|⟨g,H⟩:=aa H
   ·refine zh O g (j<|J S<|Y<|K<|W<|av<|W<|W<|av<|W ?_);cases H;exact eE O O
   refine zg O g (Q<|G<|zH (fun h:Unit=>(QJ P V<|jg a X) h=some r) (fun h=>mk [(1,.one<|.ptr<|.nm 64 0 0),(3,oI X),(4,.one<|.ptr<|.nm 256 0 0)] [(64,.vars 9<|zE P),(256,.vars 2<|j6 V)] (lk [])) ?_ ?_)
   ·intro h H;refine zH (fun f:Bool=>(ZA<|jg a X) f=some r) (fun f=>mk [(1,.one<|.ptr<|.nm 64 0 0),(3,oI X),(75,oB f)] [(64,.vars 9<|zE P)] (lk [])) ?_ ?_
    ·intro f H;obtain⟨i,H⟩|⟨i,H⟩:=aa H
     ·refine zh O i (j<|J S<|Y<|K<|av<|W<|W<|av<|W ?_);cases H;exact eE O O
     exact zg O i (Q<|aB<|G ⟨(),H,zG [] (sR O O) (o O) (bkR O O O) m⟩)
    refine aR (zf (m:=6) A O<|zn (q:=6) (c:=.d (.sl 1<|P.Wounded.map zl)) A bZ O O<|zf (m:=0) O O<|zn (q:=0) (c:=Z V.Tx) A (s O) O O ?_);obtain⟨a4,a5,H⟩:=zj H;refine zD (u:=oB a4) S R (ZO a5) (Ec O<|Ec A En) (Vc Vp<|Vc Vp Vn) O (J A ?_);obtain⟨D,H⟩|⟨D,H⟩:=aa H
    ·exact l A D O (l O D O<|l O D O<|l O D O<|l O D O<|zy O D S<|zo<|G ⟨true,H,zG [256] (sR O O) (o O) (bkR O O O) m⟩)
    refine T A D (zf (m:=7) O O<|T O D<|zn (q:=7) (c:=.d (.sl 1<|P.Ended.map zl)) A bZ O O<|T O D<|zf (m:=0) O O<|T O D<|zn (q:=0) (c:=Z V.Tx) A (s O) O O<|T O D ?_);obtain⟨w,a6,H⟩:=zj H;exact zD (u:=oB w) S R (ZO a6) (Ec O<|Ec A En) (Vc Vp<|Vc Vp Vn) O (zI O D A<|zo<|G ⟨w,H,zG [256] (sR O O) (o O) (bkR O O O) m⟩)
   refine j (J S<|Y<|U<|au (fun k:Int=>mk [(1,.one<|.ptr<|.nm 64 0 0),(3,oI X),(4,.one<|.ptr<|.nm 256 0 0),(5,oI k)] [(64,.vars 9<|zE P),(256,.vars 2<|j6 V)] (lk [])) H (zG [] (sR O O) (o O) (bkR O O O) m) ?_);intro al k H;refine aS (j<|J O<|zf (m:=1) O O<|zn (q:=1) (c:=.d (.sl 2<|V.Writes.map zi)) A (s O) O O<|zY A (n:=V.Writes.length) lm<|qj O A<|Y ?_);obtain⟨p,H⟩|⟨p,H⟩:=zB H
   ·refine zh A (dT p) (Q<|G<|aS<|U<|aS<|aF<|zf (m:=4) O O<|zn (q:=4) (c:=.d (.sl 4<|P.Locks.map zk)) A (hB O bZ) O O<|zf (m:=0) O O<|zn (q:=0) (c:=Z V.Tx) A (hB O<|s O) O O<|zf (m:=1) O O<|zn (q:=1) (c:=.d (.sl 2<|V.Writes.map zi)) A (s O) O O<|J O ?_);obtain⟨a7,a8,H⟩:=zj H;refine qm O A a8 (qb (m:=0) A O<|zZ (e:=.int .i64 a7.Key) A O ?_);obtain⟨x,a9,H⟩:=zj H;refine zD (u:=.agg [Z x.Lo,Z x.Hi]) S R (zdE a9) (Ec A En) (Vc Vp Vn) O ?_;obtain⟨ad,ae,H⟩:=zj H;refine zD (u:=oB ad) S R (K8 ae) (Ec O<|Ec O<|Ec A<|Ec S En) (Vc Vp<|Vc Vp<|Vc (q O)<|Vc Vp Vn) O (qH A<|Y<|B (zG [] (kr 63 O O<|kr 1 O O<|kr 3 O O<|kr 4 O O<|kr 5 O O N) (o O) (I (n:=64) O bZ O O<|I (n:=256) O (s O) O O E) m) ?_);obtain⟨v,H⟩|⟨v,H⟩:=zB H
    ·exact zg A (u v) (Q<|aB<|G<|aR<|J O<|qf A S<|J A<|zo<|G ⟨IntKind.wrap .i64 (k+1),H,zG [] (sR O O) (o O) (bkR O O O) m⟩)
    refine zh A (u<|nt v) (j<|J S<|Y<|K<|av<|W<|W<|av<|W<|av<|W<|W<|av<|W ?_);cases H;exact eE O O
   exact zg A (dF p) (ar<|t<|t<|aC<|G ⟨(),H,zG [] (sR O O) (o O) (bkR O O O) m⟩)
  refine aF (zf (m:=0) A O<|zn (q:=0) (c:=Z V.Tx) A bZ O O ?_);obtain⟨af,ag,H⟩:=zj H;refine zD (u:=oB af) S R (XY ag) (Ec A En) (Vc Vp Vn) O (qH A<|J A ?_);obtain⟨F,H⟩|⟨F,H⟩:=zB H
  ·refine T A (u F) (J O<|T O (u F)<|zbh A S<|T O (u F)<|J A ?_);obtain⟨C,H⟩|⟨C,H⟩:=zB H
   ·refine T A (dT C) (zf (m:=5) O O<|T O (dT C)<|zn (q:=5) (c:=.d (.sl 2<|P.Helds.map zx)) A (s O) O O<|T O (dT C)<|J O<|T O (dT C)<|zbR A S<|T O (dT C) ?_);obtain⟨ah,ai,H⟩:=zj H;refine qm O A ai (T O (dT C)<|qb (m:=0) A O<|T O (dT C)<|zZ (e:=.int .i64 ah.Tx) A O<|T O (dT C)<|zf (m:=0) O O<|T O (dT C)<|zn (q:=0) (c:=Z V.Tx) A bZ O O<|T O (dT C)<|zaa O A<|T O (u F)<|zy O (dT C) A<|zI O (u F) A<|J A ?_);obtain⟨M,H⟩|⟨M,H⟩:=zB H
    ·exact l A (dT M) O (l O (dT M) O<|l O (dT M) O<|l O (dT M) O<|zy O (dT M) S<|zo<|G ⟨true,H,zG [] (sR O O) (o O) (bkR O O O) m⟩)
    refine T A (dF M) (zf (m:=1) O O<|T O (dF M)<|zn (q:=1) (c:=.d (.sl 2<|V.Writes.map zi)) A bZ O O<|T O (dF M) ?_);obtain⟨y,aj,H⟩:=zj H;exact zD (u:=oB y) S R (KY aj) (Ec A En) (Vc Vp Vn) O (T O (dF M)<|qH A<|zI O (dF M) A<|zo<|G ⟨!y,H,zG [] (sR O O) (o O) (bkR O O O) m⟩)
   refine l A (dF C) O (l O (dF C) O<|l O (dF C) O<|l O (dF C) O<|l O (dF C) O<|l O (dF C) O<|l O (dF C) O<|l O (dF C) O<|l O (dF C) O<|l O (dF C) O<|T O (u F)<|zI O (dF C) S<|zI O (u F) A<|J A<|T A O<|zf (m:=1) O O<|T O O<|zn (q:=1) (c:=.d (.sl 2<|V.Writes.map zi)) A bZ O O<|T O O ?_);obtain⟨a2,ak,H⟩:=zj H;exact zD (u:=oB a2) S R (KY ak) (Ec A En) (Vc Vp Vn) O (T O O<|qH A<|zI O O A<|zo<|G ⟨!a2,H,zG [] (sR O O) (o O) (bkR O O O) m⟩)
  exact l A (u<|nt F) O (l O (u<|nt F) O<|l O (u<|nt F) O<|zJ A O<|zJ O O<|zJ O O<|zJ O O<|zJ O O<|zJ O O<|zJ O O<|zJ O O<|zJ O O<|zJ O O<|l O (u<|nt F) O<|zy O (u<|nt F) S<|J A<|l A O O<|l O O O<|l O O O<|l O O O<|zy O O S<|zo<|G ⟨true,H,zG [] (sR O O) (o O) (bkR O O O) m⟩)
 exact zg A h6 (ar<|t<|t<|aC<|G ⟨(),H,zG [64] N (o O) E m⟩)
theorem zhX{D:List zr}{F:Int}{r:Int}(H:km D F=some r):Fn Tryz.prog 346 (lent [.sl 2 (D.map zi),.int .i64 F]) true [.int .i64 r]:=by
 refine ac zLh O (B (z [] (kv 0 (.one<|.d<|.sl 2<|D.map zi) O O<|kv 1 (oI F) O O N) L E)<|j<|J S<|Y<|zH (fun I:Unit=>zaI I=some r) (fun I=>mk [] [] noG) ?_ ?_)
 ·intro I H;refine j (J S<|Y<|K ?_);cases H;exact eE O O
 refine j (J S<|Y<|U<|au (fun M:Int=>mk [(0,.one<|.d<|.sl 2<|D.map zi),(1,oI F),(5,oI M)] [] noG) H (z [] (sR O O) L E) ?_);intro V M H;refine aS (j<|J O<|J O<|zY A (n:=D.length) lm<|qj O A<|Y ?_);obtain⟨P,H⟩|⟨P,H⟩:=ab H
 ·refine zh A P (Q<|G<|aS<|U<|j<|J O<|J O ?_);obtain⟨X,Z,H⟩:=zj H;refine qm O A Z (qb (m:=0) A O<|zZ (e:=.int .i64 X.Key) A O<|J O<|Xv O A<|Y ?_);obtain⟨C,H⟩|⟨C,H⟩:=ab H
  ·refine zh A C (j<|J O<|J O ?_);obtain⟨R,T,H⟩:=zj H;refine qm O A T (qb (m:=1) A O<|zZ (e:=.int .i64 R.Value) A O<|J A<|Y<|B (z [] (kr 4 O O N) L E)<|K<|av<|W<|W<|av<|W ?_);cases H;exact eE O O
  exact zg A C (Q<|aB<|G<|aR<|J O<|qf A S<|J A<|zo<|G ⟨IntKind.wrap .i64 (M+1),H,z [] (sR O O) L E⟩)
 exact zg A P (ar<|t<|t<|aC<|G ⟨(),H,z [] N L E⟩)
theorem zga{P:List zr}{M:List zr}{r:Int}(H:JY P M=some r):Fn Tryz.prog 295 (lent [.sl 2 (P.map zi),.sl 2<|M.map zi]) true [.int .i64 r]:=by
 refine ac f295 O (B (z [] (kv 0 (.one<|.d<|.sl 2<|P.map zi) O O<|kv 1 (.one<|.d<|.sl 2<|M.map zi) O O N) L E)<|j<|J S<|Y<|aS<|zH (fun b:Bool=>(Jc M P) b=some r) (fun b=>mk [(0,.one<|.d<|.sl 2<|P.map zi),(1,.one<|.d<|.sl 2<|M.map zi),(14,oB b)] [] noG) ?_ ?_)
 ·intro b H;obtain⟨f,H⟩|⟨f,H⟩:=aa H
  ·refine zh O f (j<|J S<|Y<|K<|W ?_);cases H;exact eE O O
  refine zg O f (Q<|G<|j<|J S<|Y<|zH (fun c:Int=>xJ c=some r) (fun c=>mk [(5,oI c)] [] noG) ?_ ?_)
  ·intro c H;refine j (J A<|J A<|Y<|K ?_);cases H;exact eE O O
  refine j (J S<|Y<|U<|au (fun F:(Int×Int)=>mk [(0,.one<|.d<|.sl 2<|P.map zi),(1,.one<|.d<|.sl 2<|M.map zi),(5,oI F.1),(6,oI F.2)] [] noG) H (z [] (sR O O) L E) ?_);intro g F H;refine aS (j<|J O<|J O<|zY A (n:=M.length) lm<|qj O A<|Y ?_);obtain⟨V,H⟩|⟨V,H⟩:=ab H
  ·refine zh A V (Q<|G<|aS<|U<|zH (fun I:Bool=>(Qs g F) I=some r) (fun I=>mk [(0,.one<|.d<|.sl 2<|P.map zi),(1,.one<|.d<|.sl 2<|M.map zi),(5,oI F.1),(6,oI F.2),(36,oB I)] [] noG) ?_ ?_)
   ·intro I H;obtain⟨X,H⟩|⟨X,H⟩:=aa H
    ·exact zh O X (aR<|J O<|qf A S<|J A<|zo<|aB<|G<|aR<|J O<|qf A S<|J A<|zo<|G ⟨(IntKind.wrap .i64 (F.1+1),IntKind.wrap .i64 (F.2+1)),H,z [] (sR O O) L E⟩)
    exact zg O X (Q<|aB<|G<|aR<|J O<|qf A S<|J A<|zo<|G ⟨(F.1,IntKind.wrap .i64 (F.2+1)),H,z [] (sR O O) L E⟩)
   refine aR (J O<|J O ?_);obtain⟨h,i,H⟩:=zj H;refine qm O A i (qb (m:=1) A O<|zZ (e:=.int .i64 h.Value) A O<|zaa A S<|J A ?_);obtain⟨C,H⟩|⟨C,H⟩:=ab H
   ·refine T A C (J O<|T O C<|J O<|T O C<|J O<|T O C ?_);obtain⟨k,o,H⟩:=zj H;refine qm O A o (T O C<|qb (m:=0) A O<|T O C<|zZ (e:=.int .i64 k.Key) A O<|T O C ?_);obtain⟨Z,p,H⟩:=zj H;exact zD (u:=oI Z) S R (zhX p) (Ec O<|Ec A En) (Vc Vp<|Vc Vp Vn) O (T O C<|qj A S<|zy O C A<|zo<|G ⟨decide (Z < 0),H,z [] (sR O O) L E⟩)
   exact l A C O (l O C O<|l O C O<|l O C O<|l O C O<|l O C O<|l O C O<|l O C O<|zI O C S<|zo<|G ⟨false,H,z [] (sR O O) L E⟩)
  exact zg A V (ar<|t<|t<|aC<|G ⟨F.1,H,z [] (sR O O) L E⟩)
 refine aR (J O ?_);obtain⟨q,s,H⟩:=zj H;refine zD (u:=oB q) S R (zaJ s) (Ec A En) (Vc Vp Vn) O (qH A<|J A ?_);obtain⟨D,H⟩|⟨D,H⟩:=zB H
 ·refine T A (u D) (J O<|T O (u D) ?_);obtain⟨a,v,H⟩:=zj H;exact zD (u:=oB a) S R (KY v) (Ec A En) (Vc Vp Vn) O (T O (u D)<|qH A<|zI O (u D) A<|zo<|G ⟨!a,H,z [] (sR O O) L E⟩)
 exact l A (u<|nt D) O (l O (u<|nt D) O<|l O (u<|nt D) O<|zy O (u<|nt D) S<|zo<|G ⟨true,H,z [] (sR O O) L E⟩)
theorem zhY{C:zt}{r:Int}(H:kc C=some r):Fn Tryz.prog 223 (lent [.agg (zT C)]) true [.int .i64 r]:=by
 refine ac zLt O (B (z [] (kv 0 (.agg<|zE C) O O N) L E)<|j<|jb (n:=64) (m:=9) (cs:=zE C) O A O O nZ<|J S<|Y<|j<|J S<|Y<|zH (fun F:Int=>X0 F=some r) (fun F=>mk [(3,oI F)] [] noG) ?_ ?_)
 ·intro F H;refine j (J A<|J A<|Y<|K ?_);cases H;exact eE O O
 refine j (J S<|Y<|U<|au (fun D:(Int×Int)=>mk [(1,.one<|.ptr<|.nm 64 0 0),(3,oI D.1),(4,oI D.2)] [(64,.vars 9<|zE C)] noG) H (z [] (sR O O) (o O)<|bkR O O O) ?_);intro V D H;refine aS (j<|J O<|zf (m:=5) O O<|zn (q:=5) (c:=.d (.sl 2<|C.Helds.map zx)) A bZ O O<|zY A (n:=C.Helds.length) lm<|qj O A<|Y ?_);obtain⟨M,H⟩|⟨M,H⟩:=ab H
 ·refine zh A M (Q<|G<|aS<|U<|aF<|J O<|zf (m:=3) O O<|zn (q:=3) (c:=.d (.sl 2<|C.Cells.map zi)) A bZ O O<|zf (m:=5) O O<|zn (q:=5) (c:=.d (.sl 2<|C.Helds.map zx)) A bZ O O<|J O ?_);obtain⟨W,X,H⟩:=zj H;refine qm O A X (qb (m:=1) A O<|zZ (e:=.sl 2 (W.Writes.map zi)) A O ?_);obtain⟨T,P,H⟩:=zj H;exact zD (u:=oI T) S R (zga P) (Ec O<|Ec A En) (Vc Vp<|Vc Vp Vn) O (qf O A<|J A<|zo<|aB<|G<|B (z [] (kr 3 O O<|kr 1 O O<|kr 4 O O N) (o O)<|I (n:=64) O bZ O O E)<|aR<|J O<|qf A S<|J A<|zo<|G ⟨(IntKind.wrap .i64 (D.1+T),IntKind.wrap .i64 (D.2+1)),H,z [] (sR O O) (o O)<|bkR O O O⟩)
 exact zg A M (ar<|t<|t<|aC<|G ⟨D.1,H,z [64] (sR O O) (o O) E⟩)
end Go.AW
