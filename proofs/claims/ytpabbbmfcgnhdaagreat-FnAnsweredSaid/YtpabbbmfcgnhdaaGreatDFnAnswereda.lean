/- That functions of the program compute what the plain functions say. Conditions: each theorem's own. -/
import Derived.Test.YtpabbbmfcgnhdaaGreatMFnAnswered
import Derived.Test.YtpabbbmfcgnhdaaGreatGFnAnswered
import Derived.Test.YtpabbbmfcgnhdaaGreatYv
import Derived.Test.YtpabbbmfcgnhdaaGreatYx
import Derived.Test.YtpabbbmfcgnhdaaGreatYw
import Derived.Test.YtpabbbmfcgnhdaaGreatYo
import Derived.Test.YtpabbbmfcgnhdaaGreatRc
import Derived.Test.YtpabbbmfcgnhdaaGreatSFnAnswered
import Derived.Test.YtpabbbmfcgnhdaaGreatYt
import Derived.KernelRfl
set_option linter.unusedVariables false
set_option linter.unusedSimpArgs false
set_option maxRecDepth 100000
namespace Go.AW
open Go.Proofs
theorem aa{β:Type}{b:Bool}{x y:Option β}{r:β}(H:(if b=true then x else y)=some r):(b=true∧x=some r)∨(b=false∧y=some r):=(zL H).imp id fun h=>⟨nt h.1,h.2⟩
theorem ab{β:Type}{c:Prop}[Decidable c]{x y:Option β}{r:β}(H:(if c then x else y)=some r):(decide c=true∧x=some r)∨(decide c=false∧y=some r):=(zL H).imp (fun h=>⟨dT h.1,h.2⟩) fun h=>⟨dF h.1,h.2⟩
theorem af{n off a b:Nat}(e:a=b:=by first|(simp;done)|(simp;omega)|omega|(simp only[List.length_map];omega)):CWk (.sl n off a) (.sl n off b):=CWk.len e
abbrev ai(x:Int):Int:=IntKind.wrap .i64 (x+1)
theorem aj{ns:List Nat}{k:Nat}{v:V}(v':V){r r':List (Nat×V)}(A:v.er ns=v')(B:erL ns r r'):erL ns ((k,v)::r) ((k,v')::r'):=erL.cons A B
theorem ak{ns:List Nat}{k:Nat}{v:Blk}(v':Blk){r r':List (Nat×Blk)}(A:ns.contains k=false)(B:v.er ns=v')(C:erH ns r r'):erH ns ((k,v)::r) ((k,v')::r'):=erH.cons A B C
abbrev A:=@VOs.cons
abbrev B:=@dI
abbrev E:=@FxC
abbrev G:=@VO.flat
abbrev I:=@gR
abbrev J:=@gC
abbrev K:=@eZ
abbrev L:=@erH.drop
abbrev N:=@za
abbrev P:=@GK.nil
abbrev Q:=@FxR
abbrev R:=@GR.nil
abbrev S:=@ZW.k
abbrev T:=@GR.cons
abbrev U:=@eK
abbrev W:=@gDo
abbrev X:=@hdF
abbrev Y:=@zC
abbrev Z:=@oI
abbrev d:=@gM
abbrev f:=@BK.cons
abbrev g:=@zf
abbrev l:=@zGQ
abbrev m:=@zQ
abbrev o:=@zw
abbrev p:=@zG
abbrev q:=@GK.cons
abbrev s:=@BK.nil
abbrev t:=@zE
abbrev u:=@zk
abbrev am:=@RdI.rfl
abbrev ao:=@AW.weaken
abbrev ap:=@VO.sl
abbrev aq:=@Cl.fn
abbrev ar:=@erL.nil
abbrev au:=@Wk.after
abbrev av:=@SZ.nil
abbrev aw:=@AO.nil
abbrev ax:=@erH.nil
abbrev ay:=@AW.post
abbrev az:=@BL.nil
abbrev aA:=@AO.lent
abbrev aC:=@SL.cons
abbrev aD:=@AW.regt
abbrev aF:=@VO.ptr
abbrev aG:=@AO.mut
abbrev aH:=@VWk.one
abbrev aI:=@VOs.nil
abbrev aJ:=@El.lent
abbrev aK:=@SL.nil
abbrev aL:=@ZW.z
abbrev aM:=@Yo.cons
abbrev aO:=@El.one
abbrev aP:=@RdI.zs
abbrev aQ:=@AW.regl
abbrev aR:=@Fn.args
abbrev aS:=@ZW.nil
abbrev aT:=@AW.condU
abbrev aU:=@Yo.nil
abbrev aV:=@VWk.rfl
abbrev aW:=@CWk.len
abbrev aX:=@AO.give
abbrev aY:=@Bd.at
theorem zhL{A:List Int}{r:Bool}(H:Jg A=some r):Fn Tryz.prog 35 (lent [.sl 1 (A.map qc)]) true [.bool r]:=by
 refine X f35 (J 8<|qb K (n:=A.length) lm<|I 5 ?_);cases H;exact t
theorem K8{A:Int}{r:Bool}(H:xV A=some r):Fn Tryz.prog 147 (lent [.int .i64 A]) true [.bool r]:=by
 refine X zLS (J 10 ?_);obtain⟨B,H⟩:=zn H;refine Q 5 (dF B) 4 ?_;obtain⟨C,H⟩:=g H;refine Q 9 (dT C) 7 ?_;cases H;exact t
theorem qF{A:Int}{B:Int}{C:Int}{r:Bool}(H:qi A B C=some r):Fn Tryz.prog 179 (lent [.int .i64 A,.int .i64 B,.int .i64 C]) true [.bool r]:=by
 refine X zL5 (J 11 ?_);obtain⟨D,H⟩:=g H;refine Q 10 (dT D) 8 ?_;cases H;exact t
theorem zK{A:Int}{r:Bool}(H:zy A=some r):Fn Tryz.prog 180 (lent [.int .i64 A]) true [.bool r]:=by
 refine X zKH (J 8 ?_);obtain⟨C,B,H⟩:=N H;refine Y (qF B) (I 4 ?_);cases H;exact t
theorem YL{A:Int}{r:Bool}(H:Qr A=some r):Fn Tryz.prog 259 (lent [.int .i64 A]) true [.bool r]:=by
 refine X zJY (J 8 ?_);obtain⟨C,B,H⟩:=N H;refine Y (qF B) (I 4 ?_);cases H;exact t
theorem KQ{A:Int}{r:Bool}(H:jK A=some r):Fn Tryz.prog 260 (lent [.int .i64 A]) true [.bool r]:=by
 refine X zIR (J 8 ?_);obtain⟨C,B,H⟩:=N H;refine Y (qF B) (I 4 ?_);cases H;exact t
theorem k9{A:zB}{r:Bool}(H:yD A=some r):Fn Tryz.prog 337 (lent [.agg (jU A)]) true [.bool r]:=by
 refine X zIl (J 6<|gJ (fun D:Unit=>(kj A) D=some r) (fun D=>mk [(1,.one<|.ptr<|.nm 64 0 0)] [(64,.vars 2<|JA A)] (lk [])) ?_ ?_)
 ·intro D H;refine gJ (fun F:Unit=>(ki A) F=some r) (fun F=>mk [(1,.one<|.ptr<|.nm 64 0 0)] [(64,.vars 2<|JA A)] (lk [])) ?_ ?_
  ·intro F H;refine J 4 (qb K (n:=A.Cells.length) lm<|I 2 ?_);obtain⟨l,H⟩:=g H;refine Q 87 (dT l) 2 (W O O<|qb K (n:=A.Seats.length) lm<|I 6 ?_);cases H;exact t
  refine J 4 (qb K (n:=A.Seats.length) lm<|I 4<|gL (fun j:Int=>mk [(1,.one<|.ptr<|.nm 64 0 0),(43,.one<|.d<|.sl 3<|A.Seats.map zg),(44,Z (A.Seats.length:Int)),(45,Z j)] [(64,.vars 2<|JA A)] (lk [])) H (zU [] (sR O O) (blR O) (bkR O O O) P) ?_);intro o j H;refine J 6 ?_;obtain⟨G,H⟩|⟨G,H⟩:=ab H
  ·refine E 46 G 8 ?_;obtain⟨q,L,H⟩:=N H;refine jM O O L (I 10 ?_);obtain⟨s,M,H⟩:=N H;refine Y (zK M) (I 2 ?_);obtain⟨R,H⟩:=g H;refine Q 54 (cN R) 2 (W O O ?_);obtain⟨u,S,H⟩:=N H;refine Y (YL S) (I 3 ?_);obtain⟨T,H⟩:=g H;refine Q 60 (cN T) 2 (W O O ?_);obtain⟨v,U,H⟩:=N H;refine Y (KQ U) (I 3 ?_);obtain⟨V,H⟩:=g H;refine Q 66 (cN V) 3 ?_;obtain⟨a,H⟩:=zn H;exact Q 69 (dF a) 14 (p [81,1,43,44,45] [384]<|J 8<|m [] H)
  exact E 46 G 5 (m [] H)
 refine J 4 (qb K (n:=A.Cells.length) lm<|I 4<|gL (fun C:Int=>mk [(1,.one<|.ptr<|.nm 64 0 0),(8,.one<|.d<|.sl 2<|A.Cells.map zh),(9,Z (A.Cells.length:Int)),(10,Z C)] [(64,.vars 2<|JA A)] (lk [])) H (zU [] (sR O O) (blR O) (bkR O O O) P) ?_);intro k C H;refine J 6 ?_;obtain⟨B,H⟩|⟨B,H⟩:=ab H
 ·refine E 11 B 8 ?_;obtain⟨w,b,H⟩:=N H;refine jM O O b (I 10 ?_);obtain⟨x,c,H⟩:=N H;refine Y (zK c) (I 2 ?_);obtain⟨e,H⟩:=g H;refine Q 19 (cN e) 2 (W O O ?_);obtain⟨y,f,H⟩:=N H;refine Y (zK f) (I 3 ?_);obtain⟨h,H⟩:=g H;refine Q 25 (cN h) 3 ?_;obtain⟨i,H⟩:=zn H;exact Q 28 (dF i) 14 (p [40,1,8,9,10] [256]<|J 8<|m [] H)
 exact E 11 B 5 (m [] H)
theorem KL{A:qX}{r:Bool}(H:yA A=some r):Fn Tryz.prog 261 (lent [.agg (KM A)]) true [.bool r]:=by
 refine X zKw (J 14<|gJ (fun F:Bool=>(JV A) F=some r) (fun F=>mk [(1,.one<|.ptr<|.nm 64 0 0),(4,Z A.Kind),(5,oB F)] [(64,.vars 3 [B A.Kind,B A.Key,B A.Value])] (lk [])) ?_ ?_)
 ·intro F H;obtain⟨K,H⟩|⟨K,H⟩:=aa H
  ·refine E 5 K 5 ?_;obtain⟨a,S,H⟩:=N H;refine Y (zK S) (I 1 ?_);obtain⟨T,H⟩:=g H;refine Q 11 T 10 ?_;cases H;exact t
  refine E 5 K 1 (gJ (fun G:Bool=>(JS A) G=some r) (fun G=>mk [(1,.one<|.ptr<|.nm 64 0 0),(16,oB G)] [(64,.vars 3 [B A.Kind,B A.Key,B A.Value])] (lk [])) ?_ ?_)
  ·intro G H;obtain⟨L,H⟩:=g H;refine E 16 L 5 ?_;obtain⟨U,M,H⟩:=N H;refine Y (zK M) (I 1 ?_);obtain⟨P,H⟩:=g H;refine Q 22 P 2 (W O O ?_);obtain⟨V,R,H⟩:=N H;refine Y (zK R) (I 7 ?_);cases H;exact t
  refine J 6 ?_;obtain⟨C,H⟩|⟨C,H⟩:=ab H
  ·exact E 16 C 2 (m [] H)
  exact E 16 C 5 (m [] H)
 refine J 6 ?_;obtain⟨D,H⟩|⟨D,H⟩:=ab H
 ·exact E 5 D 2 (m [] H)
 exact E 5 D 5 (l [1,4,5] []<|m [] H)
theorem kK{A:zA}{r:Bool}(H:qw A=some r):Fn Tryz.prog 340 (lent [.agg (zi A)]) true [.bool r]:=by
 refine X zJJ (J 10 ?_);obtain⟨G,B,H⟩:=N H;refine Y (zK B) (I 1 ?_);obtain⟨C,H⟩:=g H;refine Q 6 C 2 (W O O ?_);obtain⟨K,D,H⟩:=N H;refine Y (YL D) (I 2 ?_);obtain⟨E,H⟩:=g H;refine Q 11 E 2 (W O O ?_);obtain⟨L,F,H⟩:=N H;refine Y (KL F) (I 4<|p [2] [64]<|J 1 ?_);cases H;exact t
theorem zem{A:zA}{r:Bool}(H:kS A=some r):Fn Tryz.prog 339 (lent [.agg (zi A)]) true [.bool r]:=by
 refine X zLr (J 9 ?_);obtain⟨C,B,H⟩:=N H;refine Y (kK B) (I 5 ?_);cases H;exact t
theorem YE{A:List zA}{r:Int}(H:jY A=some r):Fn Tryz.prog 383 (lent [.sl 5 (A.map zi),.fn 339 []]) true [.int .i64 r]:=by
 refine X zFV (J 5<|gJ (fun B:Unit=>jR B=some r) (fun B=>mk [] [] (lk [])) ?_ ?_)
 ·intro B H;refine J 6 ?_;cases H;exact t
 refine J 3 (qb K (n:=A.length) lm<|I 4<|gL (fun G:Int=>mk [(0,.one<|.d<|.sl 5<|A.map zi),(1,.one<|.fn 339 []),(7,Z (A.length:Int)),(8,Z G)] [] (lk [])) H (zU [] (sR O O) az s P) ?_);intro L G H;refine J 6 ?_;obtain⟨C,H⟩|⟨C,H⟩:=ab H
 ·refine E 9 C 16 ?_;obtain⟨Q,M,H⟩:=N H;refine jM O K M (I 1 ?_);obtain⟨R,D,H⟩:=N H;refine Y (zem D) (I 2 ?_);obtain⟨F,H⟩:=zn H;exact E 16 (nt F) 8 (l [0,1,7,8] []<|m [] H)
 exact E 9 C 5 (m [] H)
theorem JO{A:List zA}{r:Bool}(H:jt A=some r):Fn Tryz.prog 338 (lent [.sl 5 (A.map zi),.fn 339 []]) true [.bool r]:=by
 refine X zFK (J 9 ?_);obtain⟨C,B,H⟩:=N H;refine Y (YE B) (I 5 ?_);cases H;exact t
theorem Qu{A:qk}{r:Bool}(H:qj A=some r):Fn Tryz.prog 274 (lent [.agg (JL A)]) true [.bool r]:=by
 refine X zLt (J 10 ?_);obtain⟨R,E,H⟩:=N H;refine Y (zK E) (I 1 ?_);obtain⟨F,H⟩:=g H;refine Q 6 F 2 (W O O ?_);obtain⟨S,G,H⟩:=N H;refine Y (k9 G) (I 2 ?_);obtain⟨L,H⟩:=g H;refine Q 11 L 2 (W O O<|qb K (n:=A.Entries.length) lm<|I 3 ?_);obtain⟨M,H⟩:=g H;refine Q 17 (dT M) 2 (W O O ?_);obtain⟨T,B,H⟩:=N H;refine Y (JO B) (I 3 ?_);obtain⟨C,H⟩:=zn H;refine Q 23 (cN<|nt C) 4 (W O O<|qb K (n:=A.Entries.length) lm<|I 1<|W O O ?_);obtain⟨P,D,H⟩:=N H;refine Y (zK D) (I 4<|p [2] [64]<|J 1 ?_);cases H;exact t
theorem jO{A:qk}{r:Int}(H:jj A=some r):Fn Tryz.prog 275 (lent [.agg (JL A)]) true [.int .i64 r]:=by
 refine X zI3 (J 12<|qb K (n:=A.Entries.length) lm<|I 5 ?_);cases H;exact t
theorem Qf{A:qk}{B:Int}{r:Bool}(H:yu A B=some r):Fn Tryz.prog 181 (lent [.agg (JL A),.int .i64 B]) true [.bool r]:=by
 refine X zLl (J 9 ?_);obtain⟨G,C,H⟩:=N H;refine Y (Qu C) (I 1 ?_);obtain⟨D,H⟩:=g H;refine Q 7 D 4 (W O O ?_);obtain⟨K,E,H⟩:=N H;refine Y (jO E) (W O O ?_);obtain⟨L,F,H⟩:=N H;refine Y (qF F) (I 4<|p [4] [128]<|J 1 ?_);cases H;exact t
theorem zeu{x:qh}{y:Int}{r:Bool}(H:XD x y=some r):Fn Tryz.prog 184 (lent [.agg (zu x),.int .i64 y]) true [.bool r]:=by
 refine X zHR (J 12 ?_);obtain⟨C,H⟩|⟨C,H⟩:=ab H
 ·refine Q 8 C 19 (W O O ?_);obtain⟨v4,z,H⟩:=N H;refine Y (qF z) (I 2 ?_);obtain⟨h6,H⟩:=g H;refine Q 30 h6 2 (W O O ?_);obtain⟨v7,h8,H⟩:=N H;refine Y (zK h8) (I 2 ?_);obtain⟨h9,H⟩:=g H;refine Q 35 h9 2 (W O O ?_);obtain⟨a3,D,H⟩:=N H;refine Y (zK D) (I 2 ?_);obtain⟨E,H⟩:=g H;refine Q 40 E 2 (W O O ?_);obtain⟨a4,F,H⟩:=N H;refine Y (zK F) (I 2 ?_);obtain⟨G,H⟩:=g H;refine Q 45 G 4 (W O O ?_);obtain⟨a5,K,H⟩:=N H;refine Y (Qf K) (I 4<|p [4] [128]<|J 1 ?_);cases H;exact t
 refine Q 8 C 5 ?_;obtain⟨A,H⟩|⟨A,H⟩:=ab H
 ·refine Q 13 A 14 (W O O ?_);obtain⟨a6,L,H⟩:=N H;refine Y (qF L) (I 2 ?_);obtain⟨M,H⟩:=g H;refine Q 30 M 2 (W O O ?_);obtain⟨a7,P,H⟩:=N H;refine Y (zK P) (I 2 ?_);obtain⟨R,H⟩:=g H;refine Q 35 R 2 (W O O ?_);obtain⟨a8,S,H⟩:=N H;refine Y (zK S) (I 2 ?_);obtain⟨T,H⟩:=g H;refine Q 40 T 2 (W O O ?_);obtain⟨a9,U,H⟩:=N H;refine Y (zK U) (I 2 ?_);obtain⟨V,H⟩:=g H;refine Q 45 V 4 (W O O ?_);obtain⟨aa,Z,H⟩:=N H;refine Y (Qf Z) (I 4<|p [4] [128]<|J 1 ?_);cases H;exact t
 refine Q 13 A 5 ?_;obtain⟨B,H⟩|⟨B,H⟩:=zL H
 ·refine Q 18 (dT B) 9 (W O O ?_);obtain⟨ac,a,H⟩:=N H;refine Y (qF a) (I 2 ?_);obtain⟨b,H⟩:=g H;refine Q 30 b 2 (W O O ?_);obtain⟨ad,c,H⟩:=N H;refine Y (zK c) (I 2 ?_);obtain⟨d,H⟩:=g H;refine Q 35 d 2 (W O O ?_);obtain⟨ae,e,H⟩:=N H;refine Y (zK e) (I 2 ?_);obtain⟨f,H⟩:=g H;refine Q 40 f 2 (W O O ?_);obtain⟨af,h,H⟩:=N H;refine Y (zK h) (I 2 ?_);obtain⟨i,H⟩:=g H;refine Q 45 i 4 (W O O ?_);obtain⟨ag,j,H⟩:=N H;refine Y (Qf j) (I 4<|p [4] [128]<|J 1 ?_);cases H;exact t
 refine Q 18 (dF B) 5 ?_;obtain⟨k,H⟩:=g H;refine Q 23 (dT k) 4 (W O O ?_);obtain⟨ah,l,H⟩:=N H;refine Y (qF l) (I 2 ?_);obtain⟨m,H⟩:=g H;refine Q 30 m 2 (W O O ?_);obtain⟨ai,n,H⟩:=N H;refine Y (zK n) (I 2 ?_);obtain⟨o,H⟩:=g H;refine Q 35 o 2 (W O O ?_);obtain⟨aj,q,H⟩:=N H;refine Y (zK q) (I 2 ?_);obtain⟨s,H⟩:=g H;refine Q 40 s 2 (W O O ?_);obtain⟨ak,u,H⟩:=N H;refine Y (zK u) (I 2 ?_);obtain⟨v,H⟩:=g H;refine Q 45 v 4 (W O O ?_);obtain⟨al,w,H⟩:=N H;refine Y (Qf w) (I 4<|p [4] [128]<|J 1 ?_);cases H;exact t
theorem zbk{A:qh}{B:zb}{r:Bool}(H:Yt A B=some r):Fn Tryz.prog 183 (lent [.agg (zu A),.ptr<|zm B]) true [.bool r]:=by
 refine X zHS (J 11 ?_);obtain⟨D,C,H⟩:=N H;refine Y (zeu C) (I 5 ?_);cases H;exact t
theorem JQ{B:List qh}{C:zb}{r:Int}(H:jz B C=some r):Fn Tryz.prog 188 (lent [.sl 10 (B.map zu),.fn 183 [.ptr (zm C)]]) true [.int .i64 r]:=by
 refine X zFZ (J 5<|gJ (fun D:Unit=>jq D=some r) (fun D=>mk [] [] (lk [])) ?_ ?_)
 ·intro D H;refine J 6 ?_;cases H;exact t
 refine J 3 (qb K (n:=B.length) lm<|I 4<|gL (fun L:Int=>mk [(0,.one<|.d<|.sl 10<|B.map zu),(1,.one<|.fn 183 [.bd (zm C) 0]),(7,Z (B.length:Int)),(8,Z L)] [] (lk [])) H (zU [] (sR O O) az s P) ?_);intro M L H;refine J 6 ?_;obtain⟨F,H⟩|⟨F,H⟩:=ab H
 ·refine E 9 F 16 ?_;obtain⟨S,Q,H⟩:=N H;refine jM O K Q (I 1 ?_);obtain⟨R,G,H⟩:=N H;refine Y (zbk G) (I 2 ?_);obtain⟨A,H⟩|⟨A,H⟩:=aa H
  ·refine E 16 A 7 (p [4] []<|J 6 ?_);cases H;exact t
  exact E 16 A 8 (l [0,1,7,8] []<|m [] H)
 exact E 9 F 5 (m [] H)
theorem QV{A:List qh}{B:zb}{r:Bool}(H:qZ A B=some r):Fn Tryz.prog 182 (lent [.sl 10 (A.map zu),.fn 183 [.ptr (zm B)]]) true [.bool r]:=by
 refine X zJe (J 9 ?_);obtain⟨D,C,H⟩:=N H;refine Y (JQ C) (I 5 ?_);cases H;exact t
theorem zaY{A:List zD}{B:List zD}{r:Bool}(H:jx A B=some r):Fn Tryz.prog 266 (lent [.sl 2 (A.map zh),.sl 2<|B.map zh]) true [.bool r]:=by
 refine X zMR (J 9<|qb K (n:=A.length) lm<|I 1<|qb K (n:=B.length) lm<|I 3 ?_);obtain⟨Q,H⟩:=zn H;refine E 10 (dF Q) 3 (gJ (fun C:Unit=>yH C=some r) (fun C=>mk [] [] (lk [])) ?_ ?_)
 ·intro C H;refine J 6 ?_;cases H;exact t
 refine J 3 (qb K (n:=A.length) lm<|I 4<|gL (fun M:Int=>mk [(0,.one<|.d<|.sl 2<|A.map zh),(1,.one<|.d<|.sl 2<|B.map zh),(12,Z (A.length:Int)),(13,Z M)] [] (lk [])) H (zU [] (sR O O) az s P) ?_);intro R M H;refine J 6 ?_;obtain⟨D,H⟩|⟨D,H⟩:=ab H
 ·refine E 14 D 15 ?_;obtain⟨T,F,H⟩:=N H;refine jM O K F (I 3 ?_);obtain⟨S,G,H⟩:=N H;refine jM O K G (I 4<|p [24,0,1,12,13] [] ?_);obtain⟨L,H⟩:=g H;exact E 24 (cN L) 8 (m [] H)
 exact E 14 D 5 (m [] H)
theorem zaZ{A:List zN}{B:List zN}{r:Bool}(H:JJ A B=some r):Fn Tryz.prog 267 (lent [.sl 3 (A.map zg),.sl 3<|B.map zg]) true [.bool r]:=by
 refine X zLQ (J 9<|qb K (n:=A.length) lm<|I 1<|qb K (n:=B.length) lm<|I 3 ?_);obtain⟨Q,H⟩:=zn H;refine E 10 (dF Q) 3 (gJ (fun C:Unit=>Q9 C=some r) (fun C=>mk [] [] (lk [])) ?_ ?_)
 ·intro C H;refine J 6 ?_;cases H;exact t
 refine J 3 (qb K (n:=A.length) lm<|I 4<|gL (fun M:Int=>mk [(0,.one<|.d<|.sl 3<|A.map zg),(1,.one<|.d<|.sl 3<|B.map zg),(12,Z (A.length:Int)),(13,Z M)] [] (lk [])) H (zU [] (sR O O) az s P) ?_);intro R M H;refine J 6 ?_;obtain⟨D,H⟩|⟨D,H⟩:=ab H
 ·refine E 14 D 15 ?_;obtain⟨T,F,H⟩:=N H;refine jM O K F (I 3 ?_);obtain⟨S,G,H⟩:=N H;refine jM O K G (I 4<|p [24,0,1,12,13] [] ?_);obtain⟨L,H⟩:=g H;exact E 24 (cN L) 8 (m [] H)
 exact E 14 D 5 (m [] H)
theorem X7{A:zB}{B:zB}{r:Bool}(H:Jw A B=some r):Fn Tryz.prog 162 (lent [.agg (jU A),.agg<|jU B]) true [.bool r]:=by
 refine X zJc (J 13 ?_);obtain⟨F,C,H⟩:=N H;refine Y (zaY C) (I 1 ?_);obtain⟨D,H⟩:=g H;refine Q 10 D 4 (W O O ?_);obtain⟨G,E,H⟩:=N H;refine Y (zaZ E) (I 4<|p [4] [192,128]<|J 1 ?_);cases H;exact t
theorem zas{A:List zA}{B:List zA}{r:Bool}(H:Q6 A B=some r):Fn Tryz.prog 341 (lent [.sl 5 (A.map zi),.sl 5<|B.map zi]) true [.bool r]:=by
 refine X zLM (J 9<|qb K (n:=A.length) lm<|I 1<|qb K (n:=B.length) lm<|I 3 ?_);obtain⟨D,H⟩:=zn H;refine E 10 (dF D) 3 (gJ (fun C:Unit=>QE C=some r) (fun C=>mk [] [] (lk [])) ?_ ?_)
 ·intro C H;refine J 6 ?_;cases H;exact t
 refine J 3 (qb K (n:=A.length) lm<|I 4<|gL (fun F:Unit=>mk [(0,.one<|.d<|.sl 5<|A.map zi),(1,.one<|.d<|.sl 5<|B.map zi),(12,Z (A.length:Int)),(13,Z 0)] [] (lk [])) H (zU [] (sR O O) az s P) ?_);intro G F H;refine J 6 ?_;obtain⟨L,H⟩:=zn H;exact E 14 (dF L) 5 (m [] H)
theorem zdk{A:qk}{B:qk}{r:Bool}(H:Xd A B=some r):Fn Tryz.prog 276 (lent [.agg (JL A),.agg<|JL B]) true [.bool r]:=by
 refine X zIv (J 15 ?_);obtain⟨C,H⟩:=g H;refine Q 10 (dT C) 4 (W O O ?_);obtain⟨G,D,H⟩:=N H;refine Y (X7 D) (I 2 ?_);obtain⟨E,H⟩:=g H;refine Q 17 E 4 (W O O ?_);obtain⟨K,F,H⟩:=N H;refine Y (zas F) (I 4<|p [4] [192,128]<|J 1 ?_);cases H;exact t
theorem X2{A:qk}{r:Bool}(H:JC A=some r):Fn Tryz.prog 185 (lent [.agg (JL A)]) true [.bool r]:=by
 refine X zME (J 10 ?_);obtain⟨C,B,H⟩:=N H;refine Y (aR (aM am<|aM (RdI.agg<|yB.cons am O<|yB.cons aP O<|yB.cons aP O<|yB.cons aP O yB.nil) aU)<|zdk B) (I 4 ?_);cases H;exact t
theorem yp{G:zb}{r:Bool}(H:qN G=some r):Fn Tryz.prog 56 (lent [.agg (zm G)]) true [.bool r]:=by
 refine X f56 (J 11 ?_);obtain⟨v2,o,H⟩:=N H;refine Y (K8 o) (I 2 ?_);obtain⟨q,H⟩:=g H;refine Q 7 (cN q) 5 (W O O ?_);obtain⟨v5,s,H⟩:=N H;refine Y (qF s) (I 3 ?_);obtain⟨u,H⟩:=g H;refine Q 16 (cN u) 2 (W O O ?_);obtain⟨v8,v,H⟩:=N H;refine Y (zK v) (I 3 ?_);obtain⟨L,H⟩:=g H;refine Q 22 (cN L) 2 (W O O ?_);obtain⟨w,M,H⟩:=N H;refine Y (zK M) (I 3 ?_);obtain⟨P,H⟩:=g H;refine Q 28 (cN P) 2 (W O O ?_);obtain⟨x,R,H⟩:=N H;refine Y (zK R) (I 3 ?_);obtain⟨S,H⟩:=g H;refine Q 34 (cN S) 2 (W O O ?_);obtain⟨y,T,H⟩:=N H;refine Y (zK T) (I 3 ?_);obtain⟨U,H⟩:=g H;refine Q 40 (cN U) 4 (W O O ?_);obtain⟨z,V,H⟩:=N H;refine Y (Qf V) (I 3 ?_);obtain⟨Z,H⟩:=g H;refine Q 48 (cN Z) 2 (W O O<|qb K (n:=G.Votes.length) lm<|I 4<|p [53,1] [] ?_);obtain⟨a,H⟩:=zn H;refine E 53 (dF a) 9 ?_;obtain⟨a2,b,H⟩:=N H;refine Y (QV b) (I 2 ?_);obtain⟨c,H⟩:=zn H;refine E 57 (nt c) 17 ?_;obtain⟨B,H⟩|⟨B,H⟩:=ab H
 ·refine E 60 B 9 ?_;obtain⟨d,H⟩:=g H;refine Q 67 (dT d) 9 (p [2] [64]<|J 3 ?_);cases H;exact t
 refine E 60 B 7 ?_;obtain⟨C,H⟩|⟨C,H⟩:=ab H
 ·refine E 74 C 9 ?_;obtain⟨e,H⟩:=g H;refine Q 81 (dT e) 9 (p [2] [64]<|J 3 ?_);cases H;exact t
 refine E 74 C 1 (gJ (fun A:Bool=>(Qk G) A=some r) (fun A=>mk [(1,.one<|.ptr<|.nm 64 0 0),(88,oB A)] [(64,.vars 13<|zcf G)] (lk [])) ?_ ?_)
 ·intro A H;obtain⟨f,H⟩:=g H;refine E 88 f 7 ?_;obtain⟨h,H⟩:=g H;refine Q 94 (dT h) 5 ?_;obtain⟨i,H⟩:=g H;refine Q 99 (dT i) 5 ?_;obtain⟨j,H⟩:=g H;refine Q 104 (dT j) 2 (W O O ?_);obtain⟨a3,k,H⟩:=N H;refine Y (X2 k) (I 2 ?_);obtain⟨l,H⟩:=g H;refine Q 109 l 4 ?_;obtain⟨D,H⟩|⟨D,H⟩:=zL H
  ·refine Q 113 (dT D) 9 (p [2] [64]<|J 3 ?_);cases H;exact t
  refine Q 113 (dF D) 2 (W O O<|qb K (n:=G.Votes.length) lm<|I 6<|p [2] [64]<|J 3 ?_);cases H;exact t
 refine J 6 (p [88,59,1] [] ?_);obtain⟨F,H⟩|⟨F,H⟩:=zL H
 ·exact E 88 (dT F) 2 (m [] H)
 exact E 88 (dF F) 5 (m [] H)
theorem zb1{A:Int}{B:Int}{r:zb}(H:Y5 A B=some r):Fn Tryz.prog 148 (lent [.int .i64 A,.int .i64 B]) true [.agg (zm r)]:=by
 refine X zJ8 (J 6<|zj<|d 5<|u<|I 6 ?_);obtain⟨F,C,H⟩:=N H;refine Y (aR (aM (RdI.agg<|yB.cons am O<|yB.cons am O<|yB.cons am O<|yB.cons am O<|yB.cons am O<|yB.cons am O<|yB.cons am O<|yB.cons aP O<|yB.cons aP O<|yB.cons aP O<|yB.cons aP O<|yB.cons am O<|yB.cons am O yB.nil) aU)<|yp C) (I 3 ?_);obtain⟨D,H⟩:=g H;refine E 11 (cN D) 4 (zj<|d 2<|u<|I 3 ?_);cases H;exact t
theorem zc8{D:Int}{r:zr}(H:J7 D=some r):Fn Tryz.prog 36 (lent [.int .i64 D]) true [.agg (yi r)]:=by
 refine X f36 (J 9 ?_);obtain⟨b,V,H⟩:=N H;refine Y (K8 V) (I 3 ?_);obtain⟨W,H⟩:=g H;refine E 7 (cN W) 4 (zj<|d 4<|u<|I 2<|gJ (fun M:List zb=>(xD D) M=some r) (fun M=>mk [(2,.one<|.ptr<|.nm 128 0 0),(3,.one<|.ptr<|.nm 192 0 0)] [(128,.vars 5 [B 0,.zs,B 0,.zs,.zs]),(320128,.data 13 (List.map zm M) true none),(192,.vars 5 [B D,ah 320128 M,B 0,.zs,.zs])] (lk [])) ?_ ?_)
 ·intro M H;refine J 1 (zj<|d 2<|u<|I 3 ?_);cases H;exact t
 refine J 7 (gL (fun F:(Int×List zb)=>mk [(0,Z D),(2,.one<|.ptr<|.nm 128 0 0),(3,.one<|.ptr<|.nm 192 0 0),(11,Z D),(12,Z F.1)] [(128,.vars 5 [B 0,.zs,B 0,.zs,.zs]),(320192,.data 13 (List.map zm F.2) true none),(192,.vars 5 [B D,ah 320192 F.2,B 0,.zs,.zs])] (lk [])) H (au (zbv 320192 13 192 1 true (cs:=[B D,.zs,B 0,.zs,.zs]) bZ O<|nR O)<|zU [] (sR O O) (blR O) (f O (bR O) O O<|f O (bR O) O O<|f O bZ O (by first|exact rfl|(simp;done)|(simp;exact O)) s) P) ?_);intro a F H;refine J 6 ?_;obtain⟨Q,H⟩|⟨Q,H⟩:=ab H
 ·refine E 13 Q 11 (aD<|zx (m:=1) O O<|qU (q:=1) (c:=ah 320192 F.2) K (hB O<|bR O) O O<|zV O<|zV O ?_);obtain⟨C,S,H⟩:=N H;refine zCN (zb1 S) ?_;refine Kl (m:=1280) (q:=1) (cs:=jn C (ah 1223 C.Log.Image.Cells) (ah 1224 C.Log.Image.Seats) (ah 1225 C.Log.Entries) (ah 1226 C.Votes)) O (qq K xi) O (List.cons_ne_nil _ _) (by simp) (nR O) (o ?_);obtain⟨T,H⟩:=g H;exact zb2 (f:=zm) (xs:=F.2) (t:=C) (q:=(F.2++[C]).length) (ds:=[.int .i64 C.Me,.int .i64 C.Of,.int .i64 C.Mode,.int .i64 C.View,.int .i64 C.Normal,.int .i64 C.Commit,.int .i64 C.Log.Base,.sl 2<|C.Log.Image.Cells.map zh,.sl 3<|C.Log.Image.Seats.map zg,.sl 5<|C.Log.Entries.map zi,.sl 10<|C.Votes.map zu,.int .i64 C.Cell,.int .i64 C.Nonce]) (ns:=[1223,1224,1225,1226]) O K (bR O) O bZ O (A (G O)<|A (G O)<|A (G O)<|A (G O)<|A (G O)<|A (G O)<|A (G O)<|A (ap (bR O) lm (qf fun _=>O))<|A (ap (bR O) lm (qf fun _=>O))<|A (ap (bR O) lm (qf fun _=>O))<|A (KO (bR O) lm O)<|A (G O)<|A (G O) aI) O O O O T (by decide) (U O<|aj (.agg<|jn C .any .any .any .any) O<|eT O) (ak (.vars 13<|jn C .any .any .any .any) O O<|L O<|L O<|L O<|L O<|hT O) ar (U O<|U O<|U O<|U O<|aj (.one .any) O<|eT O) (hK O<|hK O<|L O<|ak (.vars 5 [B D,.any,B 0,.zs,.zs]) O O ax) ar (d 2<|u<|I 3<|p [0,2,3,11,12] [1280]<|J 4<|m [] H)
 exact E 13 Q 5 (zP (zF 320192 320128 O O (nR O) R)<|m [] H)
theorem zf0{pv:Value}{cb1:List Int}{r:(Int×Int)}(H:Y7 cb1=some r):FnC Tryz.prog pv (.sl 1<|List.map qc cb1) 149 [⟨.pin pv,.b⟩] [.ptr [.pin pv,.int .i64 r.1,.int .i64 r.2]]:=by
 refine zIa (fle O) (fle O) trivial O ?_;rw[JY];refine ao (t:=mk [(0,.one<|.d<|.pin pv)] [] (lk [(63,.one<|.d<|.both pv<|.sl 1<|List.map qc cb1)])) (zU (gl:=[(63,.one<|.d<|.both pv<|.sl 1<|List.map qc cb1)]) [] (kv 0 (.one<|.d<|.pin pv) O O aK) az s<|q O P) (ao (zmP 0 (by exact O) (by exact O))<|gE<|J 8<|zh5 K (n:=cb1.length) lm<|I 4<|gJ (fun A:Int=>xM A=some r) (fun A=>mk [(0,.one<|.d<|.both pv<|.sl 1<|List.map qc cb1),(3,Z A)] [] (lk [(63,.one<|.d<|.both pv<|.sl 1<|List.map qc cb1)])) ?_ ?_)
 ·intro A H;refine J 9 (ao (zbR (by exact O) bZ)<|J 1 ?_);cases H;exact zM
 refine J 6 (gL (fun B:(Int×Int)=>mk [(0,.one<|.d<|.both pv<|.sl 1<|List.map qc cb1),(3,Z B.1),(4,Z B.2)] [] (lk [(63,.one<|.d<|.both pv<|.sl 1<|List.map qc cb1)])) H (zU [] (sR O O) az s<|q O P) ?_);intro F B H;refine J 5 (zh5 K (n:=cb1.length) lm<|I 2 ?_);obtain⟨C,H⟩|⟨C,H⟩:=ab H
 ·refine Q 12 C 5 ?_;obtain⟨D,H⟩|⟨D,H⟩:=ab H
  ·refine E 15 D 10 ?_;obtain⟨L,G,H⟩:=N H;exact zFC O K G (I 9<|p [3,0,4] []<|J 5<|m [] H)
  exact E 15 D 5 (l [0,3] []<|m [] H)
 exact Q 12 C 10 (l [0,3] []<|m [] H)
theorem zeC{pv:Value}{cb1:List Int}{A:(Int×Int)}{r:(Int×(Int×Int))}(H:J0 cb1 A=some r):FnC Tryz.prog pv (.sl 1<|List.map qc cb1) 316 [⟨.ptr [.pin pv,.int .i64 A.1,.int .i64 A.2],.m<|.ptr [.pin pv,.int .i64 r.2.1,.int .i64 r.2.2]⟩] [.int .i64 r.1]:=by
 refine zNz (fle O) (fle O) (fC nZ O fN) O ?_;rw[JY];refine ao (t:=mk [(0,.one<|.ptr<|.nm 0 0 0)] [(0,.vars 3 [.d (.pin pv),B A.1,B A.2])] (lk [(63,.one<|.d<|.both pv<|.sl 1<|List.map qc cb1),(0,.one<|.ptr<|.nm 0 0 0)])) (zU (gl:=[(63,.one<|.d<|.both pv<|.sl 1<|List.map qc cb1),(0,.one<|.ptr<|.nm 0 0 0)]) [] (kv 0 (.one<|.ptr<|.nm 0 0 0) O O aK) (blR O) (f (n:=0) O bZ O O s)<|q O<|q O P) (ao (zg2 (by exact O) bZ)<|gE<|J 25<|zgS K eC (by decide)<|I 4<|zgS K eC (by decide)<|I 5<|p [3,0] []<|J 11<|zh5 K (n:=cb1.length) lm<|I 3 ?_);obtain⟨C,H⟩|⟨C,H⟩:=ab H
 ·refine E 34 C 12 ?_;obtain⟨F,D,H⟩:=N H;refine zFC O K D (I 7<|p [3,0] []<|J 18<|ao (zbR (by exact O) bZ)<|J 1 ?_);cases H;exact zM
 refine E 34 C 9 (ao (zbR (by exact O) bZ)<|J 1 ?_);cases H;exact zM
theorem Jn{pv:Value}{cb1:List Int}{A:(Int×Int)}{C:Int}{r:(Int×(Int×Int))}(H:j7 cb1 A C=some r):FnC Tryz.prog pv (.sl 1<|List.map qc cb1) 252 [⟨.ptr [.pin pv,.int .i64 A.1,.int .i64 A.2],.m<|.ptr [.pin pv,.int .i64 r.2.1,.int .i64 r.2.2]⟩,⟨.int .i64 C,.b⟩] [.int .i64 r.1]:=by
 refine zJL (fle O) (fle O) (fC nZ O fN) O ?_;rw[JY];refine ao (t:=mk [(0,.one<|.ptr<|.nm 0 0 0),(1,Z C)] [(0,.vars 3 [.d (.pin pv),B A.1,B A.2])] (lk [(63,.one<|.d<|.both pv<|.sl 1<|List.map qc cb1),(0,.one<|.ptr<|.nm 0 0 0)])) (zU (gl:=[(63,.one<|.d<|.both pv<|.sl 1<|List.map qc cb1),(0,.one<|.ptr<|.nm 0 0 0)]) [] (kv 0 (.one<|.ptr<|.nm 0 0 0) O O<|kv 1 (Z C) O O aK) (blR O) (f (n:=0) O bZ O O s)<|q O<|q O P) (gE<|J 12 ?_);obtain⟨F,H⟩:=zn H;refine E 10 (dF F) 10 ?_;obtain⟨L,H⟩:=g H;refine E 12 (dT L) 2 (zj<|d 1 ?_);obtain⟨D,M,H⟩:=N H;refine Zo (v0:=pv) (hg:=by exact O) (ON:=[0]) (ls:=[]) (G:=[]) (E:=[zI 0]) (MB:=[(0,.vars 3 [.d (.pin pv),B D.2.1,B D.2.2])]) (u:=Z D.1) eC aq (zeC M) (Ec K En) (aG (aF (es:=[.pin pv,.int .i64 A.1,.int .i64 A.2]) bZ O O O) aw) O O O (jI bZ O av) (eT O) (hT O) (eT O) O O (u<|I 1 ?_);obtain⟨Q,H⟩:=g H;refine zfS O K Q (I 5 ?_);cases H;exact zM
theorem zer{pv:Value}{cb1:List Int}{A:(Int×Int)}{C:Int}{r:(Bool×(Int×Int))}(H:J1 cb1 A C=some r):FnC Tryz.prog pv (.sl 1<|List.map qc cb1) 253 [⟨.ptr [.pin pv,.int .i64 A.1,.int .i64 A.2],.m<|.ptr [.pin pv,.int .i64 r.2.1,.int .i64 r.2.2]⟩,⟨.int .i64 C,.b⟩] [.bool r.1]:=by
 refine zM1 (fle O) (fle O) (fC nZ O fN) O ?_;rw[JY];refine ao (t:=mk [(0,.one<|.ptr<|.nm 0 0 0),(1,Z C)] [(0,.vars 3 [.d (.pin pv),B A.1,B A.2])] (lk [(63,.one<|.d<|.both pv<|.sl 1<|List.map qc cb1),(0,.one<|.ptr<|.nm 0 0 0)])) (zU (gl:=[(63,.one<|.d<|.both pv<|.sl 1<|List.map qc cb1),(0,.one<|.ptr<|.nm 0 0 0)]) [] (kv 0 (.one<|.ptr<|.nm 0 0 0) O O<|kv 1 (Z C) O O aK) (blR O) (f (n:=0) O bZ O O s)<|q O<|q O P) (gE<|J 6<|zj<|d 2 ?_);obtain⟨D,F,H⟩:=N H;refine Zo (v0:=pv) (hg:=by exact O) (ON:=[0]) (ls:=[]) (G:=[]) (E:=[zI 0]) (MB:=[(0,.vars 3 [.d (.pin pv),B D.2.1,B D.2.2])]) (u:=Z D.1) eC aq (Jn F) (Ec O<|Ec K En) (aG (aF (es:=[.pin pv,.int .i64 A.1,.int .i64 A.2]) bZ O O O)<|aA Vp O aw) O O O (jI bZ O av) (eT O) (hT O) (eT O) O O (u<|I 5 ?_);cases H;exact zM
theorem Kg{pv:Value}{cb1:List Int}{F:(Int×Int)}{r:(qX×(Int×Int))}(H:Zi cb1 F=some r):FnC Tryz.prog pv (.sl 1<|List.map qc cb1) 150 [⟨.ptr [.pin pv,.int .i64 F.1,.int .i64 F.2],.m<|.ptr [.pin pv,.int .i64 r.2.1,.int .i64 r.2.2]⟩] [.agg (KM r.1)]:=by
 refine zKc (fle O) (fle O) (fC nZ O fN) O ?_;rw[JY];refine ao (t:=mk [(0,.one<|.ptr<|.nm 0 0 0)] [(0,.vars 3 [.d (.pin pv),B F.1,B F.2])] (lk [(63,.one<|.d<|.both pv<|.sl 1<|List.map qc cb1),(0,.one<|.ptr<|.nm 0 0 0)])) (zU (gl:=[(63,.one<|.d<|.both pv<|.sl 1<|List.map qc cb1),(0,.one<|.ptr<|.nm 0 0 0)]) [] (kv 0 (.one<|.ptr<|.nm 0 0 0) O O aK) (blR O) (f (n:=0) O bZ O O s)<|q O<|q O P) (gE<|J 6<|zj<|d 1 ?_);obtain⟨L,Y,H⟩:=N H;refine Zo (v0:=pv) (hg:=by exact O) (ON:=[0]) (ls:=[]) (G:=[]) (E:=[zI 0]) (MB:=[(0,.vars 3 [.d (.pin pv),B L.2.1,B L.2.2])]) (u:=Z L.1) eC aq (Jn Y) (Ec K<|Ec eC En) (aG (aF (es:=[.pin pv,.int .i64 F.1,.int .i64 F.2]) (bR O) O O O)<|aA Vp O aw) O O O (jI (bR O) O av) (eT O) (hT O) (eT O) O O (d 2 ?_);obtain⟨D,a,H⟩:=N H;refine Zo (v0:=pv) (hg:=by exact O) (ON:=[0]) (ls:=[]) (G:=[]) (E:=[zI 0]) (MB:=[(0,.vars 3 [.d (.pin pv),B D.2.1,B D.2.2])]) (u:=Z D.1) eC aq (Jn a) (Ec K<|Ec eC En) (aG (aF (es:=[.pin pv,.int .i64 L.2.1,.int .i64 L.2.2]) bZ O O O)<|aA Vp O aw) O O O (jI bZ O av) (eT O) (hT O) (eT O) O O (u<|I 6<|gJ (fun T:Bool=>(jB cb1 D L) T=some r) (fun T=>mk [(0,.one<|.ptr<|.nm 0 0 0),(2,.one<|.ptr<|.nm 128 0 0),(3,.one<|.ptr<|.nm 192 0 0),(17,oB T)] [(0,.vars 3 [.d (.pin pv),B D.2.1,B D.2.2]),(128,.vars 3 [B 0,B 0,B 0]),(192,.vars 3 [B (IntKind.wrap .i64 (1+L.1)),B D.1,B 0])] (lk [(63,.one<|.d<|.both pv<|.sl 1<|List.map qc cb1),(0,.one<|.ptr<|.nm 0 0 0)])) ?_ ?_)
 ·intro T H;obtain⟨U,H⟩|⟨U,H⟩:=aa H
  ·refine E 17 U 2 (zj<|d 1 ?_);obtain⟨A,V,H⟩:=N H;refine Zo (v0:=pv) (hg:=by exact O) (ON:=[0]) (ls:=[]) (G:=[]) (E:=[zI 0]) (MB:=[(0,.vars 3 [.d (.pin pv),B A.2.1,B A.2.2])]) (u:=Z A.1) eC aq (Jn V) (Ec K<|Ec eC En) (aG (aF (es:=[.pin pv,.int .i64 D.2.1,.int .i64 D.2.2]) bZ O O O)<|aA Vp O aw) O O O (jI bZ O av) (eT O) (hT O) (eT O) O O (u<|I 5<|zj<|d 1 ?_);obtain⟨C,W,H⟩:=N H;refine Zo (v0:=pv) (hg:=by exact O) (ON:=[0]) (ls:=[]) (G:=[]) (E:=[zI 0]) (MB:=[(0,.vars 3 [.d (.pin pv),B C.2.1,B C.2.2])]) (u:=oB C.1) eC aq (zer W) (Ec K<|Ec eC En) (aG (aF (es:=[.pin pv,.int .i64 A.2.1,.int .i64 A.2.2]) (bR O) O O O)<|aA Vp O aw) O O O (jI (bR O) O av) (eT O) (hT O) (eT O) O O (u<|I 2 ?_);obtain⟨M,H⟩|⟨M,H⟩:=aa H
   ·refine E 22 M 1 (zj<|d 1 ?_);obtain⟨R,X,H⟩:=N H;refine Zo (v0:=pv) (hg:=by exact O) (ON:=[0]) (ls:=[]) (G:=[]) (E:=[zI 0]) (MB:=[(0,.vars 3 [.d (.pin pv),B R.2.1,B R.2.2])]) (u:=Z R.1) eC aq (Jn X) (Ec K<|Ec eC En) (aG (aF (es:=[.pin pv,.int .i64 C.2.1,.int .i64 C.2.2]) bZ O O O)<|aA Vp O aw) O O O (jI bZ O av) (eT O) (hT O) (eT O) O O (u<|I 11<|p [2] [192]<|J 1 ?_);cases H;exact zM
   refine E 22 M 10 ?_;cases H;exact zM
  refine E 17 U 10 ?_;cases H;exact zM
 refine J 5 ?_;obtain⟨S,H⟩|⟨S,H⟩:=ab H
 ·exact Q 13 S 5 (l [0,2,3,17] []<|m [] H)
 exact Q 13 S 5 (l [0,2,3,17] []<|m [] H)
theorem za3{pv:Value}{cb1:List Int}{r:(qX×qX)}(H:jS cb1=some r):FnC Tryz.prog pv (.sl 1<|List.map qc cb1) 37 [⟨.pin pv,.b⟩] [.agg (KM r.1),.agg<|KM r.2]:=by
 refine n37 (fle O) (fle O) trivial O ?_;rw[JY];refine ao (t:=mk [(0,.one<|.d<|.pin pv)] [] (lk [(63,.one<|.d<|.both pv<|.sl 1<|List.map qc cb1)])) (zU (gl:=[(63,.one<|.d<|.both pv<|.sl 1<|List.map qc cb1)]) [] (kv 0 (.one<|.d<|.pin pv) O O aK) az s<|q O P) (gE<|J 7<|zj<|d 1 ?_);obtain⟨F,L,H⟩:=N H;refine zod (v0:=pv) (hg:=by exact O) (ON:=[]) (ls:=[]) (G:=[]) (E:=[]) (MB:=[]) (u:=.one (.ptr<|.nm 448 0 0)) (bs:=[(448,.vars 3 [.d (.pin pv),B F.1,B F.2])]) eC aq (zf0 L) (Ec K En) (aA Vp O aw) O O O av (eT O) (hT O) (eT O) (by simp[ZP,JZ,Zt,QA,jN,D.flat]) O (fC (nR O) O<|fC (nR O) O fN) (u<|I 4<|zj<|d 1 ?_);obtain⟨A,M,H⟩:=N H;refine Zo (v0:=pv) (hg:=by exact O) (ON:=[448]) (ls:=[]) (G:=[]) (E:=[zI 448]) (MB:=[(448,.vars 3 [.d (.pin pv),B A.2.1,B A.2.2])]) (u:=.agg [B A.1.Kind,B A.1.Key,B A.1.Value]) eC aq (Kg M) (Ec K En) (aG (aF (es:=[.pin pv,.int .i64 F.1,.int .i64 F.2]) bZ O O O) aw) O O O (jI bZ O av) (eT O) (hT O) (eT O) O O (u<|I 5<|AW.regp [320]<|zeg K O<|yQ (es:=[B A.1.Kind,B A.1.Key,B A.1.Value]) K bZ O<|o<|za7 O<|zV O<|o<|zkf ?_);obtain⟨C,Q,H⟩:=N H;refine zkT (v0:=pv) (hg:=by exact O) (ON:=[448]) (ls:=[]) (G:=[]) (E:=[zI 448]) (MB:=[(448,.vars 3 [.d (.pin pv),B C.2.1,B C.2.2])]) (u:=.agg [B C.1.Kind,B C.1.Key,B C.1.Value]) eC aq (Kg Q) (Ec K En) (aG (aF (es:=[.pin pv,.int .i64 A.2.1,.int .i64 A.2.2]) (bR O) O O O) aw) O O O (jI (bR O) O av) (eT O) (hT O) (eT O) O O O (zks<|zcc O<|Xx (es:=[B A.1.Kind,B A.1.Key,B A.1.Value]) O O O O (bR O) O<|o<|zcc O<|Xx (es:=[B C.1.Kind,B C.1.Key,B C.1.Value]) O K O O (bR O) O<|o<|zkK<|gO 2 ?_);cases H;exact zM
theorem zbg{cb1:List Int}{r:(qX×qX)}(H:jS cb1=some r):Fn Tryz.prog 37 (lent [.sl 1 (List.map qc cb1)]) true [.agg (KM r.1),.agg<|KM r.2]:=
 FnC.fn fun pv=>za3 (pv:=pv) H
theorem zc4{A:Int}{B:ByteArray}{r:Bool}(H:kp A B=some r):Fn Tryz.prog 317 (lent [.int .i64 A,.str B]) true [.bool r]:=by
 refine X zJG (J 8 ?_);obtain⟨E,C,H⟩:=N H;refine Y (qF C) (I 1 ?_);obtain⟨D,H⟩:=g H;refine Q 7 D 8 ?_;cases H;exact t
theorem zek{A:z5}{B:z5}{r:Bool}(H:kN A B=some r):Fn Tryz.prog 318 (lent [.agg (zS A),.ptr<|zS B]) true [.bool r]:=by
 refine X zMk (J 17 ?_);cases H;exact t
theorem Yj{A:List z5}{B:z5}{r:Int}(H:jQ A B=some r):Fn Tryz.prog 319 (lent [.sl 3 (A.map zS),.fn 318 [.ptr (zS B)]]) true [.int .i64 r]:=by
 refine X zGr (J 5<|gJ (fun C:Unit=>jE C=some r) (fun C=>mk [] [] (lk [])) ?_ ?_)
 ·intro C H;refine J 6 ?_;cases H;exact t
 refine J 3 (qb K (n:=A.length) lm<|I 4<|gL (fun L:Int=>mk [(0,.one<|.d<|.sl 3<|A.map zS),(1,.one<|.fn 318 [.bd (zS B) 0]),(7,Z (A.length:Int)),(8,Z L)] [] (lk [])) H (zU [] (sR O O) az s P) ?_);intro M L H;refine J 6 ?_;obtain⟨D,H⟩|⟨D,H⟩:=ab H
 ·refine E 9 D 16 ?_;obtain⟨S,Q,H⟩:=N H;refine jM O K Q (I 1 ?_);obtain⟨R,F,H⟩:=N H;refine Y (zek F) (I 2 ?_);obtain⟨G,H⟩:=zn H;exact E 16 (nt G) 8 (l [0,1,7,8] []<|m [] H)
 exact E 9 D 5 (m [] H)
theorem JB{A:List z5}{B:z5}{r:Bool}(H:jp A B=some r):Fn Tryz.prog 255 (lent [.sl 3 (A.map zS),.fn 318 [.ptr (zS B)]]) true [.bool r]:=by
 refine X zFB (J 9 ?_);obtain⟨D,C,H⟩:=N H;refine Y (Yj C) (I 5 ?_);cases H;exact t
theorem zbE{A:Yk}{r:Bool}(H:kF A=some r):Fn Tryz.prog 254 (lent [.agg (zam A)]) true [.bool r]:=by
 refine X zIK (J 6<|gJ (fun B:Unit=>(XA A) B=some r) (fun B=>mk [(1,.one<|.ptr<|.nm 64 0 0)] [(64,.vars 2<|zo7 A)] (lk [])) ?_ ?_)
 ·intro B H;refine J 4 ?_;obtain⟨j,V,H⟩:=N H;refine Y (zK V) (I 1 ?_);obtain⟨a,H⟩:=g H;refine Q 40 a 2 (W O O<|qb K (n:=A.List.length) lm<|I 6 ?_);cases H;exact t
 refine J 4 (qb K (n:=A.List.length) lm<|I 4<|gL (fun U:Int=>mk [(1,.one<|.ptr<|.nm 64 0 0),(6,.one<|.d<|.sl 3<|A.List.map zS),(7,Z (A.List.length:Int)),(8,Z U)] [(64,.vars 2<|zo7 A)] (lk [])) H (zU [] (sR O O) (blR O) (bkR O O O) P) ?_);intro b U H;refine J 6 ?_;obtain⟨C,H⟩|⟨C,H⟩:=ab H
 ·refine E 9 C 8 ?_;obtain⟨c,D,H⟩:=N H;refine jM O O D (I 12 ?_);obtain⟨e,F,H⟩:=N H;refine Y (zc4 F) (I 2 ?_);obtain⟨G,H⟩:=g H;refine Q 19 (cN G) 5 (W O O ?_);obtain⟨f,L,H⟩:=N H;refine Y (qF L) (I 3 ?_);obtain⟨M,H⟩:=g H;refine Q 28 (cN M) 3 (W O O ?_);obtain⟨h,R,H⟩:=N H;refine zg3 O kz (n:=(A.List.length:Int)) O (aY K) R (I 1<|W O O ?_);obtain⟨i,S,H⟩:=N H;refine Y (JB S) (I 3<|p [35,1,6,7,8] [256] ?_);obtain⟨T,H⟩:=zn H;exact E 35 (nt T) 8 (m [] H)
 exact E 9 C 5 (m [] H)
theorem zcs{A:z5}{B:zr}{r:Bool}(H:xn A B=some r):Fn Tryz.prog 256 (lent [.agg (zS A),.ptr<|yi B]) true [.bool r]:=by
 refine X zMX (J 17 ?_);cases H;exact t
theorem JM{A:List z5}{B:zr}{r:Int}(H:jv A B=some r):Fn Tryz.prog 319 (lent [.sl 3 (A.map zS),.fn 256 [.ptr (yi B)]]) true [.int .i64 r]:=by
 refine X zGr (J 5<|gJ (fun C:Unit=>jo C=some r) (fun C=>mk [] [] (lk [])) ?_ ?_)
 ·intro C H;refine J 6 ?_;cases H;exact t
 refine J 3 (qb K (n:=A.length) lm<|I 4<|gL (fun L:Int=>mk [(0,.one<|.d<|.sl 3<|A.map zS),(1,.one<|.fn 256 [.bd (yi B) 0]),(7,Z (A.length:Int)),(8,Z L)] [] (lk [])) H (zU [] (sR O O) az s P) ?_);intro M L H;refine J 6 ?_;obtain⟨D,H⟩|⟨D,H⟩:=ab H
 ·refine E 9 D 16 ?_;obtain⟨S,Q,H⟩:=N H;refine jM O K Q (I 1 ?_);obtain⟨R,F,H⟩:=N H;refine Y (zcs F) (I 2 ?_);obtain⟨G,H⟩:=zn H;exact E 16 (nt G) 8 (l [0,1,7,8] []<|m [] H)
 exact E 9 D 5 (m [] H)
theorem QX{A:List z5}{B:zr}{r:Bool}(H:jc A B=some r):Fn Tryz.prog 255 (lent [.sl 3 (A.map zS),.fn 256 [.ptr (yi B)]]) true [.bool r]:=by
 refine X zFB (J 9 ?_);obtain⟨D,C,H⟩:=N H;refine Y (JM C) (I 5 ?_);cases H;exact t
theorem zco{A:zN}{r:Bool}(H:xz A=some r):Fn Tryz.prog 258 (lent [.agg (zg A)]) true [.bool r]:=by
 refine X zML (J 10 ?_);obtain⟨G,B,H⟩:=N H;refine Y (zK B) (I 2 ?_);obtain⟨C,H⟩:=g H;refine Q 7 (cN C) 2 (W O O ?_);obtain⟨K,D,H⟩:=N H;refine Y (YL D) (I 3 ?_);obtain⟨E,H⟩:=g H;refine Q 13 (cN E) 2 (W O O ?_);obtain⟨L,F,H⟩:=N H;refine Y (KQ F) (I 5<|p [2] [64]<|J 1 ?_);cases H;exact t
theorem JT{A:List zN}{r:Int}(H:jG A=some r):Fn Tryz.prog 320 (lent [.sl 3 (A.map zg),.fn 258 []]) true [.int .i64 r]:=by
 refine X zNf (J 5<|gJ (fun B:Unit=>jy B=some r) (fun B=>mk [] [] (lk [])) ?_ ?_)
 ·intro B H;refine J 6 ?_;cases H;exact t
 refine J 3 (qb K (n:=A.length) lm<|I 4<|gL (fun G:Int=>mk [(0,.one<|.d<|.sl 3<|A.map zg),(1,.one<|.fn 258 []),(7,Z (A.length:Int)),(8,Z G)] [] (lk [])) H (zU [] (sR O O) az s P) ?_);intro L G H;refine J 6 ?_;obtain⟨C,H⟩|⟨C,H⟩:=ab H
 ·refine E 9 C 16 ?_;obtain⟨Q,M,H⟩:=N H;refine jM O K M (I 1 ?_);obtain⟨R,D,H⟩:=N H;refine Y (zco D) (I 2 ?_);obtain⟨F,H⟩:=zn H;exact E 16 (nt F) 8 (l [0,1,7,8] []<|m [] H)
 exact E 9 C 5 (m [] H)
theorem Jd{A:List zN}{r:Bool}(H:ji A=some r):Fn Tryz.prog 257 (lent [.sl 3 (A.map zg),.fn 258 []]) true [.bool r]:=by
 refine X zL6 (J 9 ?_);obtain⟨C,B,H⟩:=N H;refine Y (JT B) (I 5 ?_);cases H;exact t
theorem YN{A:zr}{r:Bool}(H:Qe A=some r):Fn Tryz.prog 151 (lent [.agg (yi A)]) true [.bool r]:=by
 refine X zIO (J 11 ?_);obtain⟨q,a,H⟩:=N H;refine Y (K8 a) (I 2 ?_);obtain⟨b,H⟩:=g H;refine Q 9 (cN b) 2 (W O O<|qb K (n:=A.Replicas.length) lm<|I 5 ?_);obtain⟨c,H⟩:=zn H;refine Q 17 (dF c) 2 (W O O ?_);obtain⟨s,e,H⟩:=N H;refine Y (zbE e) (I 3 ?_);obtain⟨f,H⟩:=g H;refine Q 23 (cN f) 2 (W O O<|qb K (n:=A.Replies.length) lm<|I 4<|p [28,1] [] ?_);obtain⟨h,H⟩:=zn H;refine E 28 (dF h) 3 (gJ (fun B:Unit=>(xt A) B=some r) (fun B=>mk [(1,.one<|.ptr<|.nm 64 0 0)] [(64,.vars 5<|QL A)] (lk [])) ?_ ?_)
 ·intro B H;refine J 7 ?_;obtain⟨i,F,H⟩:=N H;refine Y (QX F) (I 2 ?_);obtain⟨G,H⟩:=zn H;refine E 58 (nt G) 7 ?_;obtain⟨j,L,H⟩:=N H;refine Y (Jd L) (I 5 ?_);cases H;exact t
 refine J 4 (qb K (n:=A.Replicas.length) lm<|I 4<|gL (fun D:Int=>mk [(1,.one<|.ptr<|.nm 64 0 0),(30,.one<|.d<|.sl 13<|A.Replicas.map zm),(31,Z (A.Replicas.length:Int)),(32,Z D)] [(64,.vars 5<|QL A)] (lk [])) H (zU [] (sR O O) (blR O) (bkR O O O) P) ?_);intro V D H;refine J 6 ?_;obtain⟨C,H⟩|⟨C,H⟩:=ab H
 ·refine E 33 C 6 (zj<|d 1 ?_);obtain⟨k,M,H⟩:=N H;refine zY (jM O O M<|o<|d 4<|u<|I 5 ?_);obtain⟨l,R,H⟩:=N H;refine Y (yp R) (I 2 ?_);obtain⟨S,H⟩:=g H;refine Q 40 (cN S) 6 ?_;obtain⟨T,H⟩:=zn H;refine Q 46 (dF T) 8 (p [52,1,30,31,32] [256] ?_);obtain⟨U,H⟩:=zn H;exact E 52 (dF U) 8 (m [] H)
 exact E 33 C 5 (m [] H)
theorem zgg{S:TGo}{r:Bool}(H:zar S=some r):Fn Tryz.prog 152 (lent [.agg (ziu S)]) true [.bool r]:=by
 refine X zKE (J 11 ?_);obtain⟨c,T,H⟩:=N H;refine Y (qF T) (I 2 ?_);obtain⟨U,H⟩:=g H;refine Q 7 (cN U) 2 (W O O ?_);obtain⟨d,V,H⟩:=N H;refine Y (zK V) (I 4 ?_);obtain⟨Z,H⟩:=g H;refine E 12 (cN Z) 11 (p [15,1] [] ?_);obtain⟨A,H⟩|⟨A,H⟩:=ab H
 ·refine E 15 A 5 ?_;obtain⟨e,B,H⟩:=N H;refine Y (zK B) (I 1 ?_);obtain⟨C,H⟩:=g H;refine Q 19 C 2 (W O O ?_);obtain⟨a,D,H⟩:=N H;refine Y (YL D) (I 2 ?_);obtain⟨F,H⟩:=g H;refine Q 24 F 2 (W O O ?_);obtain⟨b,G,H⟩:=N H;refine Y (KL G) (I 2 ?_);obtain⟨K,H⟩:=g H;refine Q 29 K 7 (p [2] [64]<|J 2 ?_);cases H;exact t
 refine E 15 A 10 ?_;obtain⟨L,H⟩:=zn H;refine Q 37 (dF L) 5 ?_;obtain⟨M,H⟩:=zn H;refine Q 42 (dF M) 7 (p [47,1] [] ?_);obtain⟨P,H⟩:=g H;refine E 47 (cN P) 9 ?_;obtain⟨R,H⟩:=g H;refine Q 51 (dT R) 17 (p [2] [64]<|J 1 ?_);cases H;exact t
theorem KZ{A:List z5}{r:List z5}(H:QG A=some r):Fn Tryz.prog 365 (lent [.sl 3 (A.map zS)]) true [.sl 3 (List.map zS r)]:=by
 refine X zNv (J 5<|gJ (fun C:Unit=>(j4 A) C=some r) (fun C=>mk [(0,.one<|.d<|.sl 3<|A.map zS)] [] (lk [])) ?_ ?_)
 ·intro C H;refine J 4 ?_;obtain⟨D,H⟩:=g H;refine zfo (f:=zS) (m:=448) (own:=true) (ys:=A) (q:=A.length) O O O K (aJ fun _ _=>O) O D (by decide) nZ (I 4 ?_);obtain rfl:=(Option.some.inj H);exact t
 refine J 3 ?_;obtain⟨B,H⟩|⟨B,H⟩:=zL H
 ·refine zcj K B (I 2<|aT K ?_ ?_)
  ·have H:(some ([]:List z5))=some r:=by rw[←H];simp[List.eq_nil_of_length_eq_zero B,j4]
   refine J 7 ?_;cases H;exact t
  exact J 1 (m [] H)
 exact ze4 K B (I 4<|m [] H)
theorem kX{A:Yk}{r:Yk}(H:Jo A=some r):Fn Tryz.prog 321 (lent [.agg (zam A)]) true [.agg (zam r)]:=by
 refine X zLY (J 12 ?_);obtain⟨C,B,H⟩:=N H;refine zCN (KZ B) ?_;refine I 5 ?_;cases H;exact t
theorem zab{A:List zN}{r:List zN}(H:Jj A=some r):Fn Tryz.prog 322 (lent [.sl 3 (A.map zg)]) true [.sl 3 (List.map zg r)]:=by
 refine X zMU (J 5<|gJ (fun C:Unit=>(yg A) C=some r) (fun C=>mk [(0,.one<|.d<|.sl 3<|A.map zg)] [] (lk [])) ?_ ?_)
 ·intro C H;refine J 4 ?_;obtain⟨D,H⟩:=g H;refine zfo (f:=zg) (m:=448) (own:=true) (ys:=A) (q:=A.length) O O O K (aJ fun _ _=>O) O D (by decide) nZ (I 4 ?_);obtain rfl:=(Option.some.inj H);exact t
 refine J 3 ?_;obtain⟨B,H⟩|⟨B,H⟩:=zL H
 ·refine zcj K B (I 2<|aT K ?_ ?_)
  ·have H:(some ([]:List zN))=some r:=by rw[←H];simp[List.eq_nil_of_length_eq_zero B,yg]
   refine J 7 ?_;cases H;exact t
  exact J 1 (m [] H)
 exact ze4 K B (I 4<|m [] H)
theorem y4{A:List zD}{r:List zD}(H:z6 A=some r):Fn Tryz.prog 204 (lent [.sl 2 (A.map zh)]) true [.sl 2 (List.map zh r)]:=by
 refine X zMn (J 5<|gJ (fun C:Unit=>(qa A) C=some r) (fun C=>mk [(0,.one<|.d<|.sl 2<|A.map zh)] [] (lk [])) ?_ ?_)
 ·intro C H;refine J 4 ?_;obtain⟨D,H⟩:=g H;refine zfo (f:=zh) (m:=448) (own:=true) (ys:=A) (q:=A.length) O O O K (aJ fun _ _=>O) O D (by decide) nZ (I 4 ?_);obtain rfl:=(Option.some.inj H);exact t
 refine J 3 ?_;obtain⟨B,H⟩|⟨B,H⟩:=zL H
 ·refine zcj K B (I 2<|aT K ?_ ?_)
  ·have H:(some ([]:List zD))=some r:=by rw[←H];simp[List.eq_nil_of_length_eq_zero B,qa]
   refine J 7 ?_;cases H;exact t
  exact J 1 (m [] H)
 exact ze4 K B (I 4<|m [] H)
theorem zaX{A:List zN}{r:List zN}(H:Z5 A=some r):Fn Tryz.prog 342 (lent [.sl 3 (A.map zg)]) true [.sl 3 (List.map zg r)]:=by
 refine X zKh (J 5<|gJ (fun C:Unit=>(jW A) C=some r) (fun C=>mk [(0,.one<|.d<|.sl 3<|A.map zg)] [] (lk [])) ?_ ?_)
 ·intro C H;refine J 4 ?_;obtain⟨D,H⟩:=g H;refine zfo (f:=zg) (m:=448) (own:=true) (ys:=A) (q:=A.length) O O O K (aJ fun _ _=>O) O D (by decide) nZ (I 4 ?_);obtain rfl:=(Option.some.inj H);exact t
 refine J 3 ?_;obtain⟨B,H⟩|⟨B,H⟩:=zL H
 ·refine zcj K B (I 2<|aT K ?_ ?_)
  ·have H:(some ([]:List zN))=some r:=by rw[←H];simp[List.eq_nil_of_length_eq_zero B,jW]
   refine J 7 ?_;cases H;exact t
  exact J 1 (m [] H)
 exact ze4 K B (I 4<|m [] H)
theorem xw{A:zB}{r:zB}(H:yt A=some r):Fn Tryz.prog 277 (lent [.agg (jU A)]) true [.agg (jU r)]:=by
 refine X zNe (J 10 ?_);obtain⟨D,B,H⟩:=N H;refine zCN (y4 B) ?_;refine I 2 ?_;obtain⟨E,C,H⟩:=N H;refine zCN (zaX C) ?_;refine I 5 ?_;cases H;exact t
theorem K6{A:List zA}{r:List zA}(H:Jk A=some r):Fn Tryz.prog 278 (lent [.sl 5 (A.map zi)]) true [.sl 5 (List.map zi r)]:=by
 refine X zIi (J 5<|gJ (fun C:Unit=>(yf A) C=some r) (fun C=>mk [(0,.one<|.d<|.sl 5<|A.map zi)] [] (lk [])) ?_ ?_)
 ·intro C H;refine J 4 ?_;obtain⟨D,H⟩:=g H;refine zfo (f:=zi) (m:=448) (own:=true) (ys:=A) (q:=A.length) O O O K (aJ fun _ _=>O) O D (by decide) nZ (I 4 ?_);obtain rfl:=(Option.some.inj H);exact t
 refine J 3 ?_;obtain⟨B,H⟩|⟨B,H⟩:=zL H
 ·refine zcj K B (I 2<|aT K ?_ ?_)
  ·have H:(some ([]:List zA))=some r:=by rw[←H];simp[List.eq_nil_of_length_eq_zero B,yf]
   refine J 7 ?_;cases H;exact t
  exact J 1 (m [] H)
 exact ze4 K B (I 4<|m [] H)
theorem Zv{A:qk}{r:qk}(H:j3 A=some r):Fn Tryz.prog 186 (lent [.agg (JL A)]) true [.agg (JL r)]:=by
 refine X zMc (J 12 ?_);obtain⟨D,B,H⟩:=N H;refine zCN (xw B) ?_;refine I 2 ?_;obtain⟨E,C,H⟩:=N H;refine zCN (K6 C) ?_;refine I 5 ?_;cases H;exact t
theorem zcB{M:List qh}{r:List qh}(H:xu M=some r):Fn Tryz.prog 187 (lent [.sl 10 (M.map zu)]) true [.sl 10 (List.map zu r)]:=by
 refine X zKO (J 11<|gJ (fun Q:List qh=>YZ Q=some r) (fun Q=>mk [(3,.one<|ah 320128 Q)] [(320128,.data 10 (List.map zu Q) true none)] (lk [])) ?_ ?_)
 ·intro Q H;refine J 7 ?_;obtain rfl:=(Option.some.inj H);exact t
 refine J 3 (qb K (n:=M.length) lm<|I 4<|gL (fun F:(List qh×Int)=>mk [(3,.one<|ah 320192 F.1),(7,.one<|.d<|.sl 10<|M.map zu),(8,Z (M.length:Int)),(9,Z F.2)] [(320192,.data 10 (List.map zu F.1) true none)] (lk [])) H (au (zaM 320192 10 3 true (eR O) nZ)<|zU [] (aC K O (aH af)<|sR O O) (blR O) (bkR O O O) P) ?_);intro W F H;refine J 6 ?_;obtain⟨S,H⟩|⟨S,H⟩:=ab H
 ·refine E 10 S 6 (zj ?_);obtain⟨C,Y,H⟩:=N H;refine zY (jM O O Y<|o<|d 3<|u<|I 3<|zj<|d 2 ?_);obtain⟨D,T,H⟩:=N H;refine zY (zCN (Zv T) ?_);refine o (d 2<|u<|I 2<|zj<|d 3 ?_);obtain⟨V,H⟩:=g H;exact zb2 (f:=zu) (xs:=F.1) (t:=qh.mk C.Kind C.From C.View C.Normal C.Op C.Commit D) (q:=(F.1++[qh.mk C.Kind C.From C.View C.Normal C.Op C.Commit D]).length) (ds:=[.int .i64 C.Kind,.int .i64 C.From,.int .i64 C.View,.int .i64 C.Normal,.int .i64 C.Op,.int .i64 C.Commit,.int .i64 D.Base,.sl 2<|D.Image.Cells.map zh,.sl 3<|D.Image.Seats.map zg,.sl 5<|D.Entries.map zi]) (ns:=[961,962,963]) O K (bR O) O bZ O (A (G O)<|A (G O)<|A (G O)<|A (G O)<|A (G O)<|A (G O)<|A (G O)<|A (ap (bR O) lm (qf fun _=>O))<|A (ap (bR O) lm (qf fun _=>O))<|A (ap (bR O) lm (qf fun _=>O)) aI) O O O O V (by decide) (U O<|aj (.agg<|(XL C .any .any .any).set 6<|B D.Base) O<|U O<|U O<|aj (.agg [B D.Base,.any,.any,.any]) O<|eT O) (ak (.vars 10<|(XL C .any .any .any).set 6<|B D.Base) O O<|ak (.vars 10<|(XL C .any .any .any).set 6<|B D.Base) O O<|L O<|L O<|L O<|hT O) ar (U O<|U O<|aj (.one .any) O<|U O<|U O<|U O<|U O<|U O<|U O<|U O<|U O<|U O<|aj (.one .any) O<|eT O) (hK O<|hK O<|hK O<|hK O<|L O ax) ar (u<|I 4<|p [3,7,8,9] [1216,320]<|J 4<|m [] H)
 exact E 10 S 5 (zP (zF 320192 320128 O O (nR O) R)<|m [] H)
theorem Zr{A:zb}{r:zb}(H:jP A=some r):Fn Tryz.prog 57 (lent [.agg (zm A)]) true [.agg (zm r)]:=by
 refine X f57 (J 7<|zj<|d 2 ?_);obtain⟨D,B,H⟩:=N H;refine zY (zCN (Zv B) ?_);refine o (d 2<|u<|I 3<|zj<|d 2 ?_);obtain⟨E,C,H⟩:=N H;refine zY (zCN (zcB C) ?_);refine o (d 2<|u<|I 3<|zj<|d 2<|u<|I 3 ?_);cases H;exact t
theorem zca{F:zr}{r:zr}(H:xB F=some r):Fn Tryz.prog 262 (lent [.agg (yi F)]) true [.agg (yi r)]:=by
 refine X zL4 (J 12 ?_);obtain⟨D,b,H⟩:=N H;refine zCN (kX b) ?_;refine I 2 ?_;obtain⟨M,e,H⟩:=N H;refine zCN (zab e) ?_;refine I 5 (gJ (fun T:List zb=>(YX F D M) T=some r) (fun T=>mk [(2,.one<|.ptr<|.nm 128 0 0),(3,.one<|.ptr<|.nm 192 0 0)] [(128,.vars 5 [B 0,.zs,B 0,.zs,.zs]),(320128,.data 13 (List.map zm T) true none),(192,.vars 5 [B F.Of,ah 320128 T,B D.Next,ah 641 D.List,ah 832 M]),(641,.data 3 (D.List.map zS) true none),(832,.data 3 (M.map zg) true none)] (lk [])) ?_ ?_)
 ·intro T H;refine J 1 (zj<|d 2<|u<|I 3 ?_);cases H;exact t
 refine J 4 (qb K (n:=F.Replicas.length) lm<|I 3<|p [18,17,16,3,2] [64]<|J 1<|gL (fun Q:(Int×List zb)=>mk [(2,.one<|.ptr<|.nm 128 0 0),(3,.one<|.ptr<|.nm 192 0 0),(16,.one<|.d<|.sl 13<|F.Replicas.map zm),(17,Z (F.Replicas.length:Int)),(18,Z Q.1)] [(128,.vars 5 [B 0,.zs,B 0,.zs,.zs]),(320192,.data 13 (List.map zm Q.2) true none),(192,.vars 5 [B F.Of,ah 320192 Q.2,B D.Next,ah 641 D.List,ah 832 M]),(641,.data 3 (D.List.map zS) true none),(832,.data 3 (M.map zg) true none)] (lk [])) H (au (zbv 320192 13 192 1 true (cs:=[B F.Of,.zs,B D.Next,ah 641 D.List,ah 832 M]) bZ O<|nR O)<|zU [] (sR O O) (blR O) (f O (bR O) O O<|f O (bR O) O O<|f O bZ O (by first|exact rfl|(simp;done)|(simp;exact O)) (bkR O O O)) P) ?_);intro h Q H;refine J 6 ?_;obtain⟨S,H⟩|⟨S,H⟩:=ab H
 ·refine E 19 S 6 (zj ?_);obtain⟨V,W,H⟩:=N H;refine zY (jM O O W<|o<|d 3<|u<|I 2<|aD<|zx (m:=1) O O<|qU (q:=1) (c:=ah 320192 Q.2) K (hB O<|bR O) O O<|yQ (es:=zcf V) O bZ O ?_);obtain⟨C,Y,H⟩:=N H;refine zCN (Zr Y) ?_;refine Kl (m:=1664) (q:=1) (cs:=jn C (ah 1607 C.Log.Image.Cells) (ah 1608 C.Log.Image.Seats) (ah 1609 C.Log.Entries) (ah 1610 C.Votes)) O (qq K xi) O (List.cons_ne_nil _ _) (by simp) (nR O) (o ?_);obtain⟨a,H⟩:=g H;exact zb2 (f:=zm) (xs:=Q.2) (t:=C) (q:=(Q.2++[C]).length) (ds:=[.int .i64 C.Me,.int .i64 C.Of,.int .i64 C.Mode,.int .i64 C.View,.int .i64 C.Normal,.int .i64 C.Commit,.int .i64 C.Log.Base,.sl 2<|C.Log.Image.Cells.map zh,.sl 3<|C.Log.Image.Seats.map zg,.sl 5<|C.Log.Entries.map zi,.sl 10<|C.Votes.map zu,.int .i64 C.Cell,.int .i64 C.Nonce]) (ns:=[1607,1608,1609,1610]) O K (bR O) O bZ O (A (G O)<|A (G O)<|A (G O)<|A (G O)<|A (G O)<|A (G O)<|A (G O)<|A (ap (bR O) lm (qf fun _=>O))<|A (ap (bR O) lm (qf fun _=>O))<|A (ap (bR O) lm (qf fun _=>O))<|A (KO (bR O) lm O)<|A (G O)<|A (G O) aI) O O O O a (by decide) (U O<|aj (.agg<|jn C .any .any .any .any) O<|eT O) (ak (.vars 13<|jn C .any .any .any .any) O O<|L O<|L O<|L O<|L O<|hT O) ar (U O<|U O<|U O<|aj (.one .any) O<|eT O) (hK O<|hK O<|hK O<|hK O<|L O<|ak (.vars 5 [B F.Of,.any,B D.Next,ah 641 D.List,ah 832 M]) O O<|hT O) ar (d 2<|u<|I 3<|p [2,3,16,17,18] [1664,320]<|J 4<|m [] H)
 exact E 19 S 5 (zP (zF 320192 320128 O O (nR O) R)<|m [] H)
theorem zc3{A:Yk}{B:Int}{r:Bool}(H:ko A B=some r):Fn Tryz.prog 328 (lent [.agg (zam A),.int .i64 B]) true [.bool r]:=by
 refine X zNd (J 11<|qb K (n:=A.List.length) lm<|I 1 ?_);obtain⟨D,C,H⟩:=N H;refine Y (qF C) (I 4 ?_);cases H;exact t
theorem Kq{A:List z5}{C D:Int}{r:List z5}(H:Y9 A C D=some r):Fn Tryz.prog 366 [⟨.sl 3<|A.map zS,.g⟩,⟨.int .i64 C,.b⟩,⟨.int .i64 D,.b⟩] true [.sl 3 (List.map zS r)]:=by
 obtain⟨⟨E,F,G,I⟩,H⟩:=g H;cases H;obtain⟨i,rfl⟩:∃i:Nat,C=(i:Int):=⟨Int.toNat C,by omega⟩;obtain⟨j,rfl⟩:∃j:Nat,D=(j:Int):=⟨Int.toNat D,by omega⟩;rw[Int.toNat_natCast,Int.toNat_natCast];refine zNw (fle O) (fC nZ O fN) O ?_;rw[XY];exact ao (t:=mk [(0,.one<|ah 0 A),(1,.one<|B (i:Int)),(2,.one<|B (j:Int))] [(0,.data 3 (A.map zS) true none)] (lk [])) (zU (gl:=[]) [] (aC (v:=.one (ah 0 A)) K O (aH<|aW (by simp))<|aC (v:=Z (i:Int)) (eS O K) O aV<|aC (v:=Z (j:Int)) (eS O<|eS O K) O aV aK) (blR O) (f (n:=0) O bZ O O s) P) (zoZ (f:=zS) (zv:=z5.mk 0 0 ByteArray.empty) (sz:=3) (bytes:=32) (zs:=[.int .i64 0,.int .i64 0,.str ByteArray.empty]) (fun _=>O) O O (by omega) (by omega) (by omega))
theorem zdD{D:Yk}{R:Int}{r:(Yk×z5×Int)}(H:kP D R=some r):Fn Tryz.prog 323 (lent [.agg (zam D),.int .i64 R]) true [.agg (zam r.1),.agg<|zS r.2.1,.int .i64 r.2.2]:=by
 refine X zJ1 (J 12 ?_);obtain⟨Z,S,H⟩:=N H;refine Y (zbE S) (I 3 ?_);obtain⟨T,H⟩:=g H;refine E 10 (cN T) 4 (zj<|d 1 ?_);obtain⟨F,V,H⟩:=N H;refine zY (zCN (kX V) ?_);refine o (d 2<|u<|I 7 ?_);obtain⟨a,W,H⟩:=N H;refine Y (zc3 W) (I 3<|p [18,7,5,4,2,1] [] ?_);obtain⟨M,H⟩:=g H;refine E 18 (cN M) 4 (zj<|d 5 ?_);obtain⟨C,P,H⟩:=N H;refine zdj (ON:=[897]) (ls:=[]) (G:=[897]) (E:=[897]) (MB:=[]) (u:=.one (ah 1664 C)) (bs:=[(1664,.data 3 (C.map zS) true none)]) eC aq (Kq P) (Ec O<|Ec O<|Ec K En) (aX (ap (bR O) lm (qf fun _=>O))<|aA Vp O<|aA Vp O aw) O O O av (U O<|U O<|U O<|aj (.one .any) O<|eT O) (ak (.vars 2 [B F.Next,.any]) O O<|L O<|hT O) ar (by simp[ZP,JZ,Zt,QA,jN]) O (fC (nR O) O<|fC (nR O) O fN) (d 2<|u<|I 3<|aQ [256]<|qx O O<|yQ (es:=[B F.Next,ah 1664 C]) O bZ O<|o<|qx O O<|zx (m:=1) O O<|o<|Kn (q:=1) (c:=.d (.sl 3<|D.List.map zS)) O K O O (bR O) O O O<|qx O O<|zV O<|o ?_);obtain⟨A,Q,H⟩:=N H;refine zFU O O K Q (zkl (es:=[B A.Id,B A.To,.d<|.str A.Bytes]) O K O<|Kb (es:=[B F.Next,ah 1664 C]) O O O O O O (hB O<|bR O) O<|qx O O<|Xx (es:=[B A.Id,B A.To,.d<|.str A.Bytes]) O K O O (bR O) O<|o<|qx O O<|zV eC<|o<|zcO<|gO 1<|p [6,5,4] [448,128]<|J 1 ?_);cases H;exact t
theorem za6{F:List Int}{G:Int}{r:(Int×Int×Bool)}(H:Zf F G=some r):Fn Tryz.prog 394 (lent [.sl 1 (F.map qc),.int .i64 G]) true [.int .i64 r.1,.int .i64 r.2.1,.bool r.2.2]:=by
 refine X zJh (J 12<|qb K (n:=F.length) lm<|I 1 ?_);obtain⟨c,T,H⟩:=N H;refine Y (qF T) (I 3 ?_);obtain⟨U,H⟩:=g H;refine E 15 (cN U) 15 (gL (fun A:(Int×Int)=>mk [(0,.one<|.d<|.sl 1<|F.map qc),(1,Z G),(7,Z A.1),(8,Z A.2)] [] (lk [])) H (zU [] (sR O O) az s P) ?_);intro V A H;refine J 6 ?_;obtain⟨a,H⟩:=g H;refine Q 18 (dT a) 4 (W O O<|qb K (n:=F.length) lm<|I 4 ?_);obtain⟨b,H⟩:=g H;refine E 25 (dT b) 3 (p [0,1,7,8] []<|J 8 ?_);obtain⟨L,M,H⟩:=N H;refine jM O K M (I 8<|zfS K eC (by decide)<|I 3 ?_);obtain⟨R,H⟩:=g H;refine zLv O K R (I 4<|p [7,9,0,1,8] []<|J 7 ?_);obtain⟨B,H⟩|⟨B,H⟩:=ab H
 ·exact E 43 B 10 (l [0,1,7,8] []<|m [] H)
 refine E 43 B 3 (gJ (fun C:Unit=>(ZK A L G) C=some r) (fun C=>mk [(1,Z G),(7,.one<|.d<|.int .i64<|IntKind.wrap .i64 (A.1+(IntKind.wrap .i64 ((IntKind.wrap .i64<|Int.tmod L 128) * 2 ^ (min (Int.toNat<|IntKind.wrap .i64 (7 * A.2))<|IntKind.bits .i64))))),(8,Z A.2)] [] (lk [])) ?_ ?_)
 ·intro C H;refine J 18 ?_;cases H;exact t
 refine J 5 ?_;obtain⟨D,H⟩|⟨D,H⟩:=ab H
 ·refine Q 46 D 5 ?_;obtain⟨S,H⟩:=zn H;exact E 49 (dF S) 2 (l [1,7,8] []<|m [] H)
 exact Q 46 D 7 (l [1,7,8] []<|m [] H)
theorem za4{A:List Int}{r:List Int}(H:y7 A=some r):Fn Tryz.prog 395 (lent [.sl 1 (A.map qc)]) true [.sl 1 (List.map qc r)]:=by
 refine X zIf (J 5<|gJ (fun C:Unit=>(jT A) C=some r) (fun C=>mk [(0,.one<|.d<|.sl 1<|A.map qc)] [] (lk [])) ?_ ?_)
 ·intro C H;refine J 4 ?_;obtain⟨D,H⟩:=g H;refine zfo (f:=qc) (m:=448) (own:=true) (ys:=A) (q:=A.length) O O O K (aJ fun _ _=>O) O D (by decide) nZ (I 4 ?_);obtain rfl:=(Option.some.inj H);exact t
 refine J 3 ?_;obtain⟨B,H⟩|⟨B,H⟩:=zL H
 ·refine zcj K B (I 2<|aT K ?_ ?_)
  ·have H:(some ([]:List Int))=some r:=by rw[←H];simp[List.eq_nil_of_length_eq_zero B,jT]
   refine J 7 ?_;cases H;exact t
  exact J 1 (m [] H)
 exact ze4 K B (I 4<|m [] H)
theorem zhB{A:List Int}{r:Int}(H:Kv A=some r):Fn Tryz.prog 426 (lent [.sl 1 (A.map qc)]) true [.int .i64 r]:=by
 refine X zMe (J 10<|gJ (fun G:Int=>zaB G=some r) (fun G=>mk [(3,.one<|.d<|.int .u32 G)] [] (lk [])) ?_ ?_)
 ·intro G H;refine J 9 ?_;cases H;exact t
 refine J 3 (qb K (n:=A.length) lm<|I 4<|gL (fun F:(Int×Int)=>mk [(3,.one<|.d<|.int .u32 F.1),(7,.one<|.d<|.sl 1<|A.map qc),(8,Z (A.length:Int)),(9,Z F.2)] [] (lk [])) H (zU [] (sR O O) az s P) ?_);intro M F H;refine J 6 ?_;obtain⟨Q,H⟩|⟨Q,H⟩:=ab H
 ·refine E 10 Q 3 (gJ (fun L:Int=>(Xq M F) L=some r) (fun L=>mk [(3,.one<|.d<|.int .u32 L),(7,.one<|.d<|.sl 1<|A.map qc),(8,Z (A.length:Int)),(9,Z F.2)] [] (lk [])) ?_ ?_)
  ·intro L H;exact J 4 (m [] H)
  refine J 3 ?_;obtain⟨T,R,H⟩:=N H;refine jM O O R (I 19<|gL (fun B:(Int×Int)=>mk [(3,.one<|.d<|.int .u32 B.1),(7,.one<|.d<|.sl 1<|A.map qc),(8,Z (A.length:Int)),(9,Z F.2),(17,Z B.2)] [] (lk [])) H (zU [] (sR O O) az s P) ?_);intro S B H;refine J 6 ?_;obtain⟨C,H⟩|⟨C,H⟩:=ab H
  ·refine E 18 C 15 (zgS K eC (by decide)<|I 9 ?_);obtain⟨D,H⟩|⟨D,H⟩:=ab H
   ·exact E 24 D 8 (p [3,7,8,9,17] []<|J 4<|m [] H)
   exact E 24 D 4 (p [3,7,8,9,17] []<|J 4<|m [] H)
  exact E 18 C 6 (m [] H)
 exact E 10 Q 5 (m [] H)
theorem xU{D:Int}{r:List Int}(H:yy D=some r):Fn Tryz.prog 417 (lent [.int .i64 D]) true [.sl 1 (List.map qc r)]:=by
 refine X zJv (J 12 ?_);obtain⟨F,H⟩:=zn H;refine E 5 (dF F) 9 (gJ (fun A:(Int×List Int)=>j5 A=some r) (fun A=>mk [(0,Z A.1),(3,.one<|ah 320128 A.2)] [(320128,.data 1 (List.map qc A.2) true none)] (lk [])) ?_ ?_)
 ·intro A H;refine J 6 ?_;obtain⟨G,H⟩:=g H;refine Qt (f:=qc) (xs:=A.2) (ys:=[IntKind.wrap .u8 A.1]) (q:=(A.2++([IntKind.wrap .u8 A.1])).length) O K (bR O) O (aO (f:=qc) (t:=IntKind.wrap .u8 A.1) (es:=[.int .u8 (IntKind.wrap .u8 A.1)]) bZ O O O) O G (by decide) (by decide) (U O<|U O<|U O<|aj (.one .any) O<|U O<|aj (.one .any) O ar) (hK O<|L O ax) P (I 4 ?_);cases H;exact t
 refine J 1 (gL (fun B:(Int×List Int)=>mk [(0,Z B.1),(3,.one<|ah 320192 B.2)] [(320192,.data 1 (List.map qc B.2) true none)] (lk [])) H (au (zaM 320192 1 3 true K nZ)<|zU [] (kR O O<|aC K O (aH af) aK) (blR O) (bkR O O O) P) ?_);intro M B H;refine J 7 ?_;obtain⟨C,H⟩|⟨C,H⟩:=ab H
 ·refine E 8 C 8 (zfS K eC (by decide)<|I 3 ?_);obtain⟨N,H⟩:=g H;exact Qt (f:=qc) (xs:=B.2) (ys:=[IntKind.wrap .u8 (IntKind.wrap .i64 ((Int.tmod B.1 128)+128))]) (q:=(B.2++([IntKind.wrap .u8 (IntKind.wrap .i64 ((Int.tmod B.1 128)+128))])).length) O K (bR O) O (aO (f:=qc) (t:=IntKind.wrap .u8 (IntKind.wrap .i64 ((Int.tmod B.1 128)+128))) (es:=[.int .u8 (IntKind.wrap .u8<|IntKind.wrap .i64 ((Int.tmod B.1 128)+128))]) bZ O O O) O N (by decide) (by decide) (U O<|U O<|U O<|U O<|U O<|aj (.one .any) O<|U O<|U O<|U O<|U O<|aj (.one .any) O ar) (hK O<|L O ax) P (I 5<|zzP K eC (by decide)<|I 3<|l [0,3] [896]<|m [] H)
 exact E 8 C 5 (zP (zF 320192 320128 O O (nR O) R)<|m [] H)
theorem zbz{B r:List Int}{A:Int}(H:Yr B A=some r):Fn Tryz.prog 459 [⟨.sl 1 [],.z⟩,⟨.int .i64 A,.b⟩] true [.sl 1 (List.map qc r)]:=by
 obtain⟨⟨C,D⟩,H⟩:=g H;cases H;obtain⟨n,rfl⟩:∃n:Nat,A=(n:Int):=⟨Int.toNat A,by omega⟩;exact zk3 zga (by kernel_rfl) (by kernel_rfl) (by kernel_rfl) n (by omega)
theorem zat{A:(List<|List Int)}{r:List Int}(H:yJ A=some r):Fn Tryz.prog 427 (lent [.sl 1 (A.map zeW)]) true [.sl 1 (List.map qc r)]:=by
 refine X zJg (J 10<|gJ (fun S:Int=>(ZE A) S=some r) (fun S=>mk [(0,.one<|.d<|.sl 1<|A.map zeW),(3,Z S)] [] (lk [])) ?_ ?_)
 ·intro S H;refine J 1 (zj<|d 1 ?_);obtain⟨b,e,H⟩:=N H;refine zdj (ON:=[]) (ls:=[]) (G:=[]) (E:=[]) (MB:=[]) (u:=.one (ah 1536 b)) (bs:=[(1536,.data 1 (b.map qc) true none)]) eC aq (zbz e) (Ec eC<|Ec K En) (AO.zs<|aA Vp O aw) O O O av (eT O) ax ar (by simp[ZP,JZ,Zt,QA,jN]) O (fC nZ O<|fC nZ O fN) (u<|I 3<|gJ (fun M:List Int=>ZC M=some r) (fun M=>mk [(6,.one<|ah 320128 M)] [(320128,.data 1 (List.map qc M) true none)] (lk [])) ?_ ?_)
  ·intro M H;refine J 7 ?_;obtain rfl:=(Option.some.inj H);exact t
  refine J 3 (qb K (n:=A.length) lm<|I 4<|gL (fun F:(List Int×Int)=>mk [(6,.one<|ah 320192 F.1),(25,.one<|.d<|.sl 1<|A.map zeW),(26,Z (A.length:Int)),(27,Z F.2)] [(320192,.data 1 (List.map qc F.1) true none)] (lk [])) H (au (zF 1536 320192 O O (nR O) R)<|zU [] (sR O O) (blR O) (bkR O O O) P) ?_);intro h F H;refine J 6 ?_;obtain⟨B,H⟩|⟨B,H⟩:=ab H
  ·refine E 28 B 7 ?_;obtain⟨Q,T,H⟩:=N H;refine jM O O T (I 7 ?_);obtain⟨V,H⟩:=g H;exact Qt (f:=qc) (xs:=F.1) (ys:=Q) (q:=(F.1++Q).length) O K bZ O (aJ fun _ _=>O) O V (by decide) (by decide) (U O<|aj (.one .any) O<|U O<|U O<|U O<|U O<|U O<|aj (.one .any) O<|eT O) (L O ax) P (I 8<|l [6,25,26,27] []<|m [] H)
  exact E 28 B 5 (zP (zF 320192 320128 O O (nR O) R)<|m [] H)
 refine J 3 (qb K (n:=A.length) lm<|I 4<|gL (fun C:(Int×Int)=>mk [(0,.one<|.d<|.sl 1<|A.map zeW),(3,Z C.1),(9,.one<|.d<|.sl 1<|A.map zeW),(10,Z (A.length:Int)),(11,Z C.2)] [] (lk [])) H (zU [] (sR O O) az s P) ?_);intro c C H;refine J 6 ?_;obtain⟨D,H⟩|⟨D,H⟩:=ab H
 ·refine E 12 D 7 ?_;obtain⟨W,Y,H⟩:=N H;refine jM O O Y (I 8<|qb K (n:=W.length) lm<|I 10<|p [20,3,0,9,10,11] [] ?_);obtain⟨a,H⟩:=zn H;exact E 20 (dF a) 8 (m [] H)
 exact E 12 D 5 (m [] H)
theorem zbV{B:List Int}{r:(List Int×Bool)}(H:Jt B=some r):Fn Tryz.prog 396 (lent [.sl 1 (B.map qc)]) true [.sl 1 (List.map qc r.1),.bool r.2]:=by
 refine X zKu (J 10<|qb K (n:=B.length) lm<|I 3 ?_);obtain⟨F,H⟩:=zn H;refine E 7 (dF F) 6 ?_;obtain⟨A,G,H⟩:=N H;refine Y (zhB G) (I 4<|zj<|d 1<|zY<|qb K (n:=B.length) lm<|o ?_);obtain⟨C,M,H⟩:=N H;refine zY (Y (xU M)<|o<|d 4<|zY<|zgS K eC (by decide)<|o<|d 2<|zY<|zgS K eC (by decide)<|o<|d 2<|zY<|zgS K eC (by decide)<|o<|d 3<|y3 (zdX 1600 (f:=qc) (xs:=[IntKind.wrap .u8 A,IntKind.wrap .u8<|Int.fdiv A<|2 ^ (min (Int.toNat 8)<|IntKind.bits .i64),IntKind.wrap .u8<|Int.fdiv A<|2 ^ (min (Int.toNat 16)<|IntKind.bits .i64),IntKind.wrap .u8<|Int.fdiv A<|2 ^ (min (Int.toNat 24)<|IntKind.bits .i64)]) (bR O) O (fun _=>O) fun _=>O) (y3 (t:=mk [(26,.one<|.sl 1664 0 3),(25,.one .any),(24,.one<|.d<|.int .u8<|IntKind.wrap .u8<|Int.fdiv A<|2 ^ (min (Int.toNat 24)<|IntKind.bits .i64)),(23,Z<|Int.fdiv A<|2 ^ (min (Int.toNat 24)<|IntKind.bits .i64)),(22,Z A),(21,.one<|.d<|.int .u8<|IntKind.wrap .u8<|Int.fdiv A<|2 ^ (min (Int.toNat 16)<|IntKind.bits .i64)),(20,Z<|Int.fdiv A<|2 ^ (min (Int.toNat 16)<|IntKind.bits .i64)),(19,Z A),(18,.one<|.d<|.int .u8<|IntKind.wrap .u8<|Int.fdiv A<|2 ^ (min (Int.toNat 8)<|IntKind.bits .i64)),(17,Z<|Int.fdiv A<|2 ^ (min (Int.toNat 8)<|IntKind.bits .i64)),(16,Z A),(15,.one<|.d<|.int .u8<|IntKind.wrap .u8 A),(14,Z A),(13,.one<|.d<|.sl 1<|B.map qc),(12,.one<|.d<|.sl 1<|C.map qc),(11,Z (B.length:Int)),(10,.one<|.d<|.sl 1<|B.map qc),(4,Z A),(9,Z A),(8,.one<|.d<|.sl 1<|B.map qc),(7,oB false),(7,oB<|decide (4000 < (B.length:Int))),(6,Z (B.length:Int)),(5,.one<|.d<|.sl 1<|B.map qc),(3,oB false),(2,.one .zs),(0,.one<|.d<|.sl 1<|B.map qc)] [(1664,.vars 1 [.d (.sl 1<|C.map qc),.d<|.sl 1<|B.map qc,.d<|.sl 1<|List.map qc<|[IntKind.wrap .u8 A,IntKind.wrap .u8<|Int.fdiv A<|2 ^ (min (Int.toNat 8)<|IntKind.bits .i64),IntKind.wrap .u8<|Int.fdiv A<|2 ^ (min (Int.toNat 16)<|IntKind.bits .i64),IntKind.wrap .u8<|Int.fdiv A<|2 ^ (min (Int.toNat 24)<|IntKind.bits .i64)]]),(1664,.vars 1 [.d (.sl 1<|C.map qc),.d<|.sl 1<|B.map qc,.any])] (lk [])) (ziC 1600 (i:=2) (f:=qc) (xs:=[IntKind.wrap .u8 A,IntKind.wrap .u8<|Int.fdiv A<|2 ^ (min (Int.toNat 8)<|IntKind.bits .i64),IntKind.wrap .u8<|Int.fdiv A<|2 ^ (min (Int.toNat 16)<|IntKind.bits .i64),IntKind.wrap .u8<|Int.fdiv A<|2 ^ (min (Int.toNat 24)<|IntKind.bits .i64)]) (bR O) O bZ O (fun _=>O) O (U O<|aj (.one .any) O<|eT O) (L O<|ak (.vars 1 [.d (.sl 1<|C.map qc),.d<|.sl 1<|B.map qc,.any]) O O<|L O ax) ar O) ?_));obtain⟨D,P,H⟩:=N H;refine zY (zj8 (u:=.one (ah 1728 D)) (bs:=[(1728,.data 1 (D.map qc) true none)]) eC aq (zat P) (Ec K En) (Vc (VD.vars [.sl 1 (C.map qc),.sl 1<|B.map qc,.sl 1<|List.map qc<|[IntKind.wrap .u8 A,IntKind.wrap .u8<|Int.fdiv A<|2 ^ (min (Int.toNat 8)<|IntKind.bits .i64),IntKind.wrap .u8<|Int.fdiv A<|2 ^ (min (Int.toNat 16)<|IntKind.bits .i64),IntKind.wrap .u8<|Int.fdiv A<|2 ^ (min (Int.toNat 24)<|IntKind.bits .i64)]] bZ O O) Vn) (by simp[ZP,JZ,Zt,QA,jN]) O (fC (nR O) O<|fC (nR O) O fN)<|o<|u<|I 4<|p [3,2] [1664]<|J 1 ?_);cases H;exact t
theorem za1{A:List Int}{B:List Int}{r:Bool}(H:y6 A B=some r):Fn Tryz.prog 397 (lent [.sl 1 (A.map qc),.sl 1<|B.map qc]) true [.bool r]:=by
 refine X zLJ (J 9<|qb K (n:=A.length) lm<|I 1<|qb K (n:=B.length) lm<|I 3 ?_);obtain⟨Q,H⟩:=zn H;refine E 10 (dF Q) 3 (gJ (fun C:Unit=>Ja C=some r) (fun C=>mk [] [] (lk [])) ?_ ?_)
 ·intro C H;refine J 6 ?_;cases H;exact t
 refine J 3 (qb K (n:=A.length) lm<|I 4<|gL (fun M:Int=>mk [(0,.one<|.d<|.sl 1<|A.map qc),(1,.one<|.d<|.sl 1<|B.map qc),(12,Z (A.length:Int)),(13,Z M)] [] (lk [])) H (zU [] (sR O O) az s P) ?_);intro R M H;refine J 6 ?_;obtain⟨D,H⟩|⟨D,H⟩:=ab H
 ·refine E 14 D 15 ?_;obtain⟨T,F,H⟩:=N H;refine jM O K F (I 3 ?_);obtain⟨S,G,H⟩:=N H;refine jM O K G (I 4<|p [24,0,1,12,13] [] ?_);obtain⟨L,H⟩:=zn H;exact E 24 (dF L) 8 (m [] H)
 exact E 14 D 5 (m [] H)
theorem zdT{A:List Int}{L:Int}{r:(List Int×Int×Int)}(H:Jr A L=some r):Fn Tryz.prog 367 (lent [.sl 1 (A.map qc),.int .i64 L]) true [.sl 1 (List.map qc r.1),.int .i64 r.2.1,.int .i64 r.2.2]:=by
 refine X zKT (J 11 ?_);obtain⟨a,M,H⟩:=N H;refine Y (za6 M) (I 16 ?_);obtain⟨P,H⟩:=g H;refine Q 24 (cN P) 6 (p [21,8,7,0,1] [] ?_);obtain⟨R,H⟩:=zn H;refine E 21 (dF R) 4 (qb K (n:=A.length) lm<|I 8 ?_);obtain⟨S,H⟩:=zn H;refine E 28 (dF S) 11 ?_;obtain⟨b,T,H⟩:=N H;refine zg3 O (aY O) (n:=(A.length:Int)) O (aY K) T ?_;obtain⟨U,B,H⟩:=N H;refine zCN (za4 B) ?_;refine I 3 (p [10,8,7,0,1] []<|J 3 ?_);obtain⟨V,C,H⟩:=N H;refine Y (zbV C) (I 16<|p [13,11,10,0,1] []<|J 7 ?_);obtain⟨W,D,H⟩:=N H;refine zg3 O (aY O) (n:=(A.length:Int)) O (aY K) D ?_;obtain⟨Z,F,H⟩:=N H;refine Y (za1 F) (I 3 ?_);obtain⟨G,H⟩:=g H;refine E 58 (cN G) 12 (p [6,5,4] []<|J 1 ?_);cases H;exact t
theorem ZM{pv:Value}{cb1:List Int}{A:(Int×Bool)}{r:(Int×(Int×Bool))}(H:jA cb1 A=some r):FnC Tryz.prog pv (.sl 1<|List.map qc cb1) 368 [⟨.ptr [.pin pv,.int .i64 A.1,.bool A.2],.m<|.ptr [.pin pv,.int .i64 r.2.1,.bool r.2.2]⟩] [.int .i64 r.1]:=by
 refine zJj (fle O) (fle O) (fC nZ O fN) O ?_;rw[JY];refine ao (t:=mk [(0,.one<|.ptr<|.nm 0 0 0)] [(0,.vars 3 [.d (.pin pv),B A.1,.d<|.bool A.2])] (lk [(63,.one<|.d<|.both pv<|.sl 1<|List.map qc cb1),(0,.one<|.ptr<|.nm 0 0 0)])) (zU (gl:=[(63,.one<|.d<|.both pv<|.sl 1<|List.map qc cb1),(0,.one<|.ptr<|.nm 0 0 0)]) [] (kv 0 (.one<|.ptr<|.nm 0 0 0) O O aK) (blR O) (f (n:=0) O bZ O O s)<|q O<|q O P) (ao (zg2 (by exact O) bZ)<|gE<|J 15 ?_);obtain⟨C,H⟩:=g H;refine E 10 (cN C) 13 ?_;obtain⟨F,D,H⟩:=N H;refine Y (aR (aM zkQ<|aM am aU)<|za6 D) (I 9<|p [5,4,3,0] []<|J 20<|ao (zbR (by exact O) bZ)<|J 1 ?_);cases H;exact zM
theorem JX{G:Int}{r:ByteArray}(H:jD G=some r):Fn Tryz.prog 369 (lent [.int .i64 G]) true [.str r]:=by
 refine X zNm (J 18 ?_);obtain⟨K,H⟩|⟨K,H⟩:=ab H
 ·refine E 4 K 9 ?_;cases H;exact t
 refine E 4 K 7 ?_;obtain⟨L,H⟩|⟨L,H⟩:=ab H
 ·refine E 6 L 9 ?_;cases H;exact t
 refine E 6 L 1 (gJ (fun I:Bool=>(YS G) I=some r) (fun I=>mk [(3,Z G),(8,oB I)] [] (lk [])) ?_ ?_)
 ·intro I H;obtain⟨M,H⟩|⟨M,H⟩:=zL H
  ·refine E 8 M 9 ?_;cases H;exact t
  refine E 8 (nt M) 7 ?_;obtain⟨N,H⟩|⟨N,H⟩:=zL H
  ·refine E 11 (dT N) 9 ?_;cases H;exact t
  refine E 11 (dF N) 7 ?_;obtain⟨P,H⟩|⟨P,H⟩:=zL H
  ·refine E 13 (dT P) 9 ?_;cases H;exact t
  refine E 13 (dF P) 7 ?_;obtain⟨Q,H⟩|⟨Q,H⟩:=zL H
  ·refine E 15 (dT Q) 9 ?_;cases H;exact t
  refine E 15 (dF Q) 1 (gJ (fun A:Bool=>(J9 G) A=some r) (fun A=>mk [(3,Z G),(17,oB A)] [] (lk [])) ?_ ?_)
  ·intro A H;obtain⟨B,H⟩|⟨B,H⟩:=zL H
   ·refine E 17 B 9 ?_;cases H;exact t
   refine E 17 (nt B) 7 ?_;obtain⟨C,H⟩|⟨C,H⟩:=zL H
   ·refine E 20 (dT C) 9 ?_;cases H;exact t
   refine E 20 (dF C) 7 ?_;obtain⟨R,H⟩:=g H;refine E 22 (dT R) 9 ?_;cases H;exact t
  refine J 6 ?_;obtain⟨D,H⟩|⟨D,H⟩:=zL H
  ·exact E 17 (dT D) 2 (l [3,17] []<|m [] H)
  exact E 17 (dF D) 5 (l [3,17] []<|m [] H)
 refine J 6 ?_;obtain⟨F,H⟩|⟨F,H⟩:=zL H
 ·exact E 8 (dT F) 2 (l [3,8] []<|m [] H)
 exact E 8 (dF F) 5 (l [3,8] []<|m [] H)
theorem Z4{pv:Value}{cb1:List Int}{A:(Int×Bool)}{r:(Int×(Int×Bool))}(H:yb cb1 A=some r):FnC Tryz.prog pv (.sl 1<|List.map qc cb1) 370 [⟨.ptr [.pin pv,.int .i64 A.1,.bool A.2],.m<|.ptr [.pin pv,.int .i64 r.2.1,.bool r.2.2]⟩] [.int .i64 r.1]:=by
 refine zKI (fle O) (fle O) (fC nZ O fN) O ?_;rw[JY];refine ao (t:=mk [(0,.one<|.ptr<|.nm 0 0 0)] [(0,.vars 3 [.d (.pin pv),B A.1,.d<|.bool A.2])] (lk [(63,.one<|.d<|.both pv<|.sl 1<|List.map qc cb1),(0,.one<|.ptr<|.nm 0 0 0)])) (zU (gl:=[(63,.one<|.d<|.both pv<|.sl 1<|List.map qc cb1),(0,.one<|.ptr<|.nm 0 0 0)]) [] (kv 0 (.one<|.ptr<|.nm 0 0 0) O O aK) (blR O) (f (n:=0) O bZ O O s)<|q O<|q O P) (gE<|J 6<|zj<|d 1 ?_);obtain⟨C,D,H⟩:=N H;refine Zo (v0:=pv) (hg:=by exact O) (ON:=[0]) (ls:=[]) (G:=[]) (E:=[zI 0]) (MB:=[(0,.vars 3 [.d (.pin pv),B C.2.1,.d<|.bool C.2.2])]) (u:=Z C.1) eC aq (ZM D) (Ec K En) (aG (aF (es:=[.pin pv,.int .i64 A.1,.bool A.2]) bZ O O O) aw) O O O (jI bZ O av) (eT O) (hT O) (eT O) O O (u<|I 11 ?_);obtain⟨F,H⟩:=g H;refine Q 11 F 8 (p [3] []<|J 7 ?_);cases H;exact zM
theorem Yq{pv:Value}{cb1:List Int}{X:(Int×Bool)}{h:Int}{V:Int}{r:((List<|List Int)×(Int×Bool))}(H:Zm cb1 X h V=some r):FnC Tryz.prog pv (.sl 1<|List.map qc cb1) 398 [⟨.ptr [.pin pv,.int .i64 X.1,.bool X.2],.m<|.ptr [.pin pv,.int .i64 r.2.1,.bool r.2.2]⟩,⟨.int .i64 h,.b⟩,⟨.int .i64 V,.b⟩] [.sl 1 (List.map xq r.1)]:=by
 refine zMK (fle O) (fle O) (fC nZ O fN) O ?_;rw[JY];refine ao (t:=mk [(0,.one<|.ptr<|.nm 0 0 0),(1,Z h),(2,Z V)] [(0,.vars 3 [.d (.pin pv),B X.1,.d<|.bool X.2])] (lk [(63,.one<|.d<|.both pv<|.sl 1<|List.map qc cb1),(0,.one<|.ptr<|.nm 0 0 0)])) (zU (gl:=[(63,.one<|.d<|.both pv<|.sl 1<|List.map qc cb1),(0,.one<|.ptr<|.nm 0 0 0)]) [] (kv 0 (.one<|.ptr<|.nm 0 0 0) O O<|kv 1 (Z h) O O<|kv 2 (Z V) O O aK) (blR O) (f (n:=0) O bZ O O s)<|q O<|q O P) (gE<|J 12<|zj<|d 1 ?_);obtain⟨Y,w,H⟩:=N H;refine Zo (v0:=pv) (hg:=by exact O) (ON:=[0]) (ls:=[]) (G:=[]) (E:=[zI 0]) (MB:=[(0,.vars 3 [.d (.pin pv),B Y.2.1,.d<|.bool Y.2.2])]) (u:=Z Y.1) eC aq (ZM w) (Ec K En) (aG (aF (es:=[.pin pv,.int .i64 X.1,.bool X.2]) bZ O O O) aw) O O O (jI bZ O av) (eT O) (hT O) (eT O) O O (u<|I 11 ?_);obtain⟨x,H⟩:=g H;refine Q 20 x 9 (p [8,7,0,2] []<|gJ (fun a:((List<|List Int)×Int×Bool)=>JI a=some r) (fun a=>mk [(7,.one<|ah 321472 a.1)] [(321472,.data 1 (List.map xq a.1) true none),(0,.vars 3 [.d (.pin pv),B a.2.1,.d<|.bool a.2.2])] (lk [(63,.one<|.d<|.both pv<|.sl 1<|List.map qc cb1),(0,.one<|.ptr<|.nm 0 0 0)])) ?_ ?_)
 ·intro a H;refine J 7 ?_;cases H;exact zM
 refine J 6 (gL (fun C:((List<|List Int)×Int×Int×Bool)=>mk [(0,.one<|.ptr<|.nm 0 0 0),(2,Z V),(7,.one<|ah 321984 C.1),(8,Z Y.1),(9,Z C.2.1)] [(321984,.data 1 (List.map xq C.1) true none),(0,.vars 3 [.d (.pin pv),B C.2.2.1,.d<|.bool C.2.2.2])] (lk [(63,.one<|.d<|.both pv<|.sl 1<|List.map qc cb1),(0,.one<|.ptr<|.nm 0 0 0)])) H (au (zaM 321984 1 7 true (eR O)<|nR O)<|zU [] (kR O O<|kR O O<|aC K O (aH af)<|sR O O) (blR O) (bkR O O O)<|q O<|q O P) ?_);intro W C H;refine J 7 ?_;obtain⟨c,H⟩|⟨c,H⟩:=ab H
 ·refine Q 30 c 7 ?_;obtain⟨i,H⟩:=g H;refine E 35 i 3 (p [0,2,7,8,9] []<|gJ (fun M:((List<|List Int)×Int×Bool)=>(ZL W C) M=some r) (fun M=>mk [(0,.one<|.ptr<|.nm 0 0 0),(2,Z V),(7,.one<|ah 322688 M.1),(8,Z Y.1),(9,Z C.2.1)] [(322688,.data 1 (List.map xq M.1) true none),(0,.vars 3 [.d (.pin pv),B M.2.1,.d<|.bool M.2.2])] (lk [(63,.one<|.d<|.both pv<|.sl 1<|List.map qc cb1),(0,.one<|.ptr<|.nm 0 0 0)])) ?_ ?_)
  ·intro M H;exact J 5 (zP (zF 322688 321984 O O (nR O)<|T O<|T O R)<|m [] H)
  refine J 7 (gJ (fun D:(List Int×Int×Bool)=>(Ji C<|ZL W C) D=some r) (fun D=>mk [(0,.one<|.ptr<|.nm 0 0 0),(2,Z V),(7,.one<|ah 321984 C.1),(8,Z Y.1),(9,Z C.2.1),(10,.one<|ah 322816 D.1)] [(322816,.data 1 (List.map Zd D.1) true none),(0,.vars 3 [.d (.pin pv),B D.2.1,.d<|.bool D.2.2]),(321984,.data 1 (List.map xq C.1) true none)] (lk [(63,.one<|.d<|.both pv<|.sl 1<|List.map qc cb1),(0,.one<|.ptr<|.nm 0 0 0)])) ?_ ?_)
  ·intro D H;refine zj (d 3 ?_);obtain⟨j,H⟩:=g H;exact zb2 (f:=xq) (xs:=C.1) (t:=D.1) (q:=(C.1++[D.1]).length) (ds:=[.sl 1 (List.map Zd D.1)]) (ns:=[322816]) O K (bR O) O bZ O (A (ap (bR O) lm (qf fun _=>O)) aI) O O O O j (by decide) (U O<|aj (.one .any) O<|U O<|U O<|U O<|U O<|U O<|U O<|aj (.one .any) O ar) (ak (.vars 1 [.any]) O O<|L O<|hT O) (eT O) (U O<|U O<|aj (.one .any) O<|U O<|U O<|aj (.one .any) O<|eT O) (hK O<|hK O<|L O ax) (eT O) (u<|I 3<|l [0,2,7,8,9] [3264]<|zP (zF 321984 322688 O O (nR O)<|T O<|T O R)<|m [] H)
  refine J 7 (gL (fun F:(List Int×Int×Int×Bool)=>mk [(0,.one<|.ptr<|.nm 0 0 0),(2,Z V),(7,.one<|ah 321984 C.1),(8,Z Y.1),(9,Z C.2.1),(10,.one<|ah 322880 F.1),(39,Z V),(40,Z F.2.1)] [(322880,.data 1 (List.map Zd F.1) true none),(0,.vars 3 [.d (.pin pv),B F.2.2.1,.d<|.bool F.2.2.2]),(321984,.data 1 (List.map xq C.1) true none)] (lk [(63,.one<|.d<|.both pv<|.sl 1<|List.map qc cb1),(0,.one<|.ptr<|.nm 0 0 0)])) H (au (zaM 322880 1 10 true (eR O)<|nR O)<|zU [] (kR O O<|kR O O<|kR O O<|kR O O<|kR O O<|aC K O (aH af)<|sR O O) (blR O) (bkR O O O)<|q O<|q O P) ?_);intro v F H;refine J 6 ?_;obtain⟨e,H⟩|⟨e,H⟩:=ab H
  ·refine E 41 e 6 (zj<|d 1 ?_);obtain⟨S,k,H⟩:=N H;refine Zo (v0:=pv) (hg:=by exact O) (ON:=[0]) (ls:=[]) (G:=[]) (E:=[zI 0]) (MB:=[(0,.vars 3 [.d (.pin pv),B S.2.1,.d<|.bool S.2.2])]) (u:=Z S.1) eC aq (ZM k) (Ec K En) (aG (aF (es:=[.pin pv,.int .i64 F.2.2.1,.bool F.2.2.2]) (bR O) O O O) aw) O O O (jI (bR O) O av) (eT O) (hT O) (eT O) O O (u<|I 7 ?_);obtain⟨o,H⟩:=g H;exact Qt (f:=Zd) (xs:=F.1) (ys:=[S.1]) (q:=(F.1++([S.1])).length) O K (bR O) O (aO (f:=Zd) (t:=S.1) (es:=[.int .i64 S.1]) bZ O O O) O o (by decide) (by decide) (U O<|U O<|aj (.one .any) O<|U O<|U O<|U O<|U O<|U O<|U O<|U O<|U O<|U O<|U O<|aj (.one .any) O<|eT O) (hK O<|hK O<|L O<|hT O) (q O<|q O P) (I 4<|p [10,0,2,7,8,9,39,40] [2944]<|J 4<|l [0,2,7,8,9,10,39,40] []<|m [] H)
  exact E 41 e 5 (l [0,2,7,8,9,10] []<|zP (zF 322880 322816 O O (nR O)<|T O<|T O R)<|m [] H)
 exact Q 30 c 12 (l [7] []<|zP (zF 321984 321472 O O (nR O)<|T O<|T O R)<|m [] H)
theorem zbJ{pv:Value}{cb1:List Int}{v:Int}{r:(qk×Int×Bool)}(H:Jv cb1 v=some r):FnC Tryz.prog pv (.sl 1<|List.map qc cb1) 371 [⟨.pin pv,.b⟩,⟨.int .i64 v,.b⟩] [.agg (JL r.1),.int .i64 r.2.1,.bool r.2.2]:=by
 refine zJ6 (fle O) (fle O) trivial O ?_;rw[JY];refine ao (t:=mk [(0,.one<|.d<|.pin pv),(1,Z v)] [] (lk [(63,.one<|.d<|.both pv<|.sl 1<|List.map qc cb1)])) (zU (gl:=[(63,.one<|.d<|.both pv<|.sl 1<|List.map qc cb1)]) [] (kv 0 (.one<|.d<|.pin pv) O O<|kv 1 (Z v) O O aK) az s<|q O P) (gE<|J 17<|zj<|d 3<|u<|I 3<|zj<|d 1 ?_);obtain⟨A,h4,H⟩:=N H;refine Zo (v0:=pv) (hg:=by exact O) (ON:=[1152]) (ls:=[]) (G:=[]) (E:=[zI 1152]) (MB:=[(1152,.vars 3 [.d (.pin pv),B A.2.1,.d<|.bool A.2.2])]) (u:=Z A.1) eC aq (ZM h4) (Ec K En) (aG (aF (es:=[.pin pv,.int .i64 v,.bool true]) (bR O) O O O) aw) O O O (jI (bR O) O av) (eT O) (hT O) (eT O) O O (u<|I 4<|gJ (fun j:(Int×Bool)=>(YY cb1 A) j=some r) (fun j=>mk [(4,.one<|.ptr<|.nm 256 0 0),(7,.one<|.ptr<|.nm 1152 0 0),(8,.one<|.ptr<|.nm 512 0 0)] [(256,.vars 4 [B 0,.zs,.zs,.zs]),(512,.vars 4 [B A.1,.zs,.zs,.zs]),(1152,.vars 3 [.d (.pin pv),B j.1,.d<|.bool j.2])] (lk [(63,.one<|.d<|.both pv<|.sl 1<|List.map qc cb1)])) ?_ ?_)
 ·intro j H;refine gJ (fun k:(Int×Bool)=>(YK cb1 A) k=some r) (fun k=>mk [(4,.one<|.ptr<|.nm 256 0 0),(7,.one<|.ptr<|.nm 1152 0 0),(8,.one<|.ptr<|.nm 512 0 0)] [(256,.vars 4 [B 0,.zs,.zs,.zs]),(512,.vars 4 [B A.1,.zs,.zs,.zs]),(1152,.vars 3 [.d (.pin pv),B k.1,.d<|.bool k.2])] (lk [(63,.one<|.d<|.both pv<|.sl 1<|List.map qc cb1)])) ?_ ?_
  ·intro k H;refine gJ (fun i:(List zA×Int×Bool)=>(Y3 A) i=some r) (fun i=>mk [(4,.one<|.ptr<|.nm 256 0 0),(7,.one<|.ptr<|.nm 1152 0 0),(8,.one<|.ptr<|.nm 512 0 0)] [(256,.vars 4 [B 0,.zs,.zs,.zs]),(320128,.data 5 (List.map zi i.1) true none),(512,.vars 4 [B A.1,.zs,.zs,ah 320128 i.1]),(1152,.vars 3 [.d (.pin pv),B i.2.1,.d<|.bool i.2.2])] (lk [(63,.one<|.d<|.both pv<|.sl 1<|List.map qc cb1)])) ?_ ?_
   ·intro i H;refine J 9 ?_;obtain⟨w,H⟩:=g H;refine Q 106 (cN w) 1 (W O O ?_);obtain⟨an,x,H⟩:=N H;refine Y (aR (aM (RdI.agg<|yB.cons am O<|yB.cons aP O<|yB.cons aP O<|yB.cons am O yB.nil) aU)<|Qu x) (I 4 ?_);obtain⟨y,H⟩:=g H;refine E 110 (cN y) 4 (aQ [256]<|qx O O<|yQ (es:=[B A.1,.zs,.zs,ah 320128 i.1]) O (bR O) O<|o<|qx O O<|zV O<|o<|qx O O<|ql K<|o<|qx O O<|zx (m:=1) K O<|o<|Kn (q:=1) (c:=B i.2.1) O K O O (bR O) O O O<|Kb (es:=[B A.1,.zs,.zs,ah 320128 i.1]) O O O O O O (hB O bZ) O<|qx O O<|zV K<|o<|qx O O<|zV eC<|o<|zcO<|gO 1<|p [6,5,4] [512,1152]<|J 1 ?_);cases H;exact zM
   refine J 1 (zj<|d 1 ?_);obtain⟨C,z,H⟩:=N H;refine Zo (v0:=pv) (hg:=by exact O) (ON:=[1152]) (ls:=[]) (G:=[]) (E:=[zI 1152]) (MB:=[(1152,.vars 3 [.d (.pin pv),B C.2.1,.d<|.bool C.2.2])]) (u:=.one (.d<|.sl 1<|C.1.map xq)) eC aq (Yq z) (Ec K<|Ec eC<|Ec eC En) (aG (aF (es:=[.pin pv,.int .i64 k.1,.bool k.2]) (bR O) O O O)<|aA Vp O<|aA Vp O aw) O O O (jI (bR O) O av) (eT O) (hT O) (eT O) O O (u<|qb K (n:=C.1.length) lm<|I 4<|gL (fun X:(Int×List zA)=>mk [(4,.one<|.ptr<|.nm 256 0 0),(7,.one<|.ptr<|.nm 1152 0 0),(8,.one<|.ptr<|.nm 512 0 0),(72,.one<|.d<|.sl 1<|C.1.map xq),(73,Z (C.1.length:Int)),(74,Z X.1)] [(256,.vars 4 [B 0,.zs,.zs,.zs]),(320192,.data 5 (List.map zi X.2) true none),(512,.vars 4 [B A.1,.zs,.zs,ah 320192 X.2]),(1152,.vars 3 [.d (.pin pv),B C.2.1,.d<|.bool C.2.2])] (lk [(63,.one<|.d<|.both pv<|.sl 1<|List.map qc cb1)])) H (au (zbv 320192 5 512 3 true (cs:=[B A.1,.zs,.zs,.zs]) (bR O) O<|nR O)<|zU [] (sR O O) (blR O) (f O (bR O) O O<|f O (bR O) O O<|f O bZ O (by first|exact rfl|(simp;done)|(simp;exact O)) (bkR O O O)) (q O P)) ?_);intro ag X H;refine J 6 ?_;obtain⟨l,H⟩|⟨l,H⟩:=ab H
   ·refine E 75 l 7 ?_;obtain⟨ap,a1,H⟩:=N H;refine jM O O a1 (I 4<|aD<|zx (m:=3) O O<|qU (q:=3) (c:=ah 320192 X.2) K (hB O<|bR O) O O<|zV O ?_);obtain⟨a,a3,H⟩:=N H;refine jM K eC a3 (YU (e:=.int .i64 a) K O<|zV O ?_);obtain⟨h,a4,H⟩:=N H;refine jM K eC a4 (YU (e:=.int .i64 h) K O<|zV O ?_);obtain⟨D,a5,H⟩:=N H;refine jM K eC a5 (YU (e:=.int .i64 D) K O<|zV O ?_);obtain⟨F,a6,H⟩:=N H;refine jM K eC a6 (YU (e:=.int .i64 F) K O<|zV O ?_);obtain⟨M,a7,H⟩:=N H;refine jM K eC a7 (YU (e:=.int .i64 M) K O<|xl (cs:=[B D,B F,B M]) (qq O<|qq O<|qq K xi) O<|xl (cs:=[B a,B h,B D,B F,B M]) (qq O<|qq O<|qq K xi) O<|Kl (m:=6208) (q:=1) (cs:=[B a,B h,B D,B F,B M]) O (qq K xi) O (List.cons_ne_nil _ _) (by simp) (nR O)<|o ?_);obtain⟨a8,H⟩:=g H;exact zY (Qt (f:=zi) (xs:=X.2) (ys:=[zA.mk a h (qX.mk D F M)]) (q:=(X.2++([zA.mk a h (qX.mk D F M)])).length) O K (bR O) O (aO (f:=zi) (t:=zA.mk a h (qX.mk D F M)) (es:=[.int .i64 a,.int .i64 h,.int .i64 D,.int .i64 F,.int .i64 M]) bZ O O O) O a8 (by decide) (by decide) (U O<|U O<|U O<|U O<|U O<|U O<|U O<|U O<|U O<|U O<|U O<|U O<|U O<|U O<|U O<|U O<|U O<|U O<|aj (.one .any) O<|eT O) (hK O<|hK O<|L O<|ak (.vars 4 [B A.1,.zs,.zs,.any]) O O<|hT O) (q O P)<|o<|d 2<|u<|I 3<|p [4,7,8,72,73,74] [6208]<|J 4<|m [] H)
   exact E 75 l 5 (zP (zF 320192 320128 O O (nR O)<|T O R)<|m [] H)
  refine J 1 (zj<|d 1 ?_);obtain⟨S,a9,H⟩:=N H;refine Zo (v0:=pv) (hg:=by exact O) (ON:=[1152]) (ls:=[]) (G:=[]) (E:=[zI 1152]) (MB:=[(1152,.vars 3 [.d (.pin pv),B S.2.1,.d<|.bool S.2.2])]) (u:=.one (.d<|.sl 1<|S.1.map xq)) eC aq (Yq a9) (Ec K<|Ec eC<|Ec eC En) (aG (aF (es:=[.pin pv,.int .i64 j.1,.bool j.2]) (bR O) O O O)<|aA Vp O<|aA Vp O aw) O O O (jI (bR O) O av) (eT O) (hT O) (eT O) O O (u<|qb K (n:=S.1.length) lm<|I 4<|gL (fun aa:Unit=>mk [(4,.one<|.ptr<|.nm 256 0 0),(7,.one<|.ptr<|.nm 1152 0 0),(8,.one<|.ptr<|.nm 512 0 0),(46,.one<|.d<|.sl 1<|S.1.map xq),(47,Z (S.1.length:Int)),(48,Z 0)] [(256,.vars 4 [B 0,.zs,.zs,.zs]),(512,.vars 4 [B A.1,.zs,.zs,.zs]),(1152,.vars 3 [.d (.pin pv),B S.2.1,.d<|.bool S.2.2])] (lk [(63,.one<|.d<|.both pv<|.sl 1<|List.map qc cb1)])) H (zU [] (sR O O) (blR O) (bkR O O O)<|q O P) ?_);intro ai aa H;refine J 6 ?_;obtain⟨ac,H⟩:=zn H;exact E 49 (dF ac) 5 (m [] H)
 refine J 1 (zj<|d 1 ?_);obtain⟨V,ad,H⟩:=N H;refine Zo (v0:=pv) (hg:=by exact O) (ON:=[1152]) (ls:=[]) (G:=[]) (E:=[zI 1152]) (MB:=[(1152,.vars 3 [.d (.pin pv),B V.2.1,.d<|.bool V.2.2])]) (u:=.one (.d<|.sl 1<|V.1.map xq)) eC aq (Yq ad) (Ec K<|Ec eC<|Ec eC En) (aG (aF (es:=[.pin pv,.int .i64 A.2.1,.bool A.2.2]) (bR O) O O O)<|aA Vp O<|aA Vp O aw) O O O (jI (bR O) O av) (eT O) (hT O) (eT O) O O (u<|qb K (n:=V.1.length) lm<|I 3<|p [26,25,24,8,7,4] []<|J 1<|gL (fun ae:Unit=>mk [(4,.one<|.ptr<|.nm 256 0 0),(7,.one<|.ptr<|.nm 1152 0 0),(8,.one<|.ptr<|.nm 512 0 0),(24,.one<|.d<|.sl 1<|V.1.map xq),(25,Z (V.1.length:Int)),(26,Z 0)] [(256,.vars 4 [B 0,.zs,.zs,.zs]),(512,.vars 4 [B A.1,.zs,.zs,.zs]),(1152,.vars 3 [.d (.pin pv),B V.2.1,.d<|.bool V.2.2])] (lk [(63,.one<|.d<|.both pv<|.sl 1<|List.map qc cb1)])) H (zU [] (sR O O) (blR O) (bkR O O O)<|q O P) ?_);intro al ae H;refine J 6 ?_;obtain⟨af,H⟩:=zn H;exact E 27 (dF af) 5 (m [] H)
theorem zcx{cb1:List Int}{A:Int}{r:(qk×Int×Bool)}(H:Jv cb1 A=some r):Fn Tryz.prog 371 (lent [.sl 1 (List.map qc cb1),.int .i64 A]) true [.agg (JL r.1),.int .i64 r.2.1,.bool r.2.2]:=
 zoX O fun pv=>zbJ (pv:=pv) H
theorem Qm{B:ByteArray}{C:Int}{r:Bool}(H:Zz B C=some r):Fn Tryz.prog 399 (lent [.str B,.int .u8 C]) true [.bool r]:=by
 refine X zNy (J 5<|gJ (fun D:Unit=>zaI D=some r) (fun D=>mk [] [] (lk [])) ?_ ?_)
 ·intro D H;refine J 6 ?_;cases H;exact t
 refine J 8 (gL (fun G:Int=>mk [(0,.one<|.d<|.str B),(1,.one<|.d<|.int .u8 C),(7,Z (B.size:Int)),(8,Z G)] [] (lk [])) H (zU [] (sR O O) az s P) ?_);intro L G H;refine J 6 ?_;obtain⟨F,H⟩|⟨F,H⟩:=ab H
 ·refine E 9 F 15 ?_;obtain⟨Q,M,H⟩:=N H;refine zbe O K M (I 4 ?_);obtain⟨A,H⟩|⟨A,H⟩:=ab H
  ·refine E 15 A 12 ?_;cases H;exact t
  exact E 15 A 8 (l [0,1,7,8] []<|m [] H)
 exact E 9 F 5 (m [] H)
theorem zd6{D:Int}{F:Int}{r:Bool}(H:Xa D F=some r):Fn Tryz.prog 400 (lent [.int .u8 D,.int .i64 F]) true [.bool r]:=by
 refine X zM5 (J 18 ?_);obtain⟨A,H⟩|⟨A,H⟩:=ab H
 ·refine E 6 A 4 ?_;obtain⟨P,G,H⟩:=N H;refine Y (qF G) (I 6 ?_);cases H;exact t
 refine E 6 A 7 ?_;obtain⟨B,H⟩|⟨B,H⟩:=ab H
 ·refine E 10 B 4 ?_;obtain⟨Q,K,H⟩:=N H;refine Y (YL K) (I 6 ?_);cases H;exact t
 refine E 10 B 7 ?_;obtain⟨L,H⟩:=zn H;refine E 14 (dF L) 7 ?_;obtain⟨M,C,H⟩:=N H;refine Y (zK C) (I 3<|p [4] []<|J 1 ?_);cases H;exact t
theorem YM{C:qg}{r:Bool}(H:jH C=some r):Fn Tryz.prog 373 (lent [.agg (qY C)]) true [.bool r]:=by
 refine X zI1 (J 10 ?_);obtain⟨U,h3,H⟩:=N H;refine Y (JX h3) (I 10 ?_);obtain⟨h4,H⟩:=zn H;refine E 10 (nt h4) 3 (gJ (fun b:Unit=>(kt U C) b=some r) (fun b=>mk [(1,.one<|.ptr<|.nm 64 0 0),(3,.one<|.d<|.str U)] [(64,.vars 17<|zeJ C)] (lk [])) ?_ ?_)
 ·intro b H;refine J 1 (gJ (fun a:Bool=>(ZI U C) a=some r) (fun a=>mk [(1,.one<|.ptr<|.nm 64 0 0),(3,.one<|.d<|.str U),(60,oB a)] [(64,.vars 17<|zeJ C)] (lk [])) ?_ ?_)
  ·intro a H;obtain⟨h9,H⟩:=zn H;refine E 60 (nt h9) 7 ?_;obtain⟨a9,c,H⟩:=N H;refine Y (Qm c) (I 3 ?_);obtain⟨D,H⟩|⟨D,H⟩:=aa H
   ·refine E 63 (cN D) 7 ?_;obtain⟨ab,e,H⟩:=N H;refine Y (Qu e) (I 1 ?_);obtain⟨f,H⟩:=g H;refine Q 70 f 7 (W O O ?_);obtain⟨ac,h,H⟩:=N H;refine Y (jO h) (W O O ?_);obtain⟨ad,i,H⟩:=N H;refine Y (qF i) (I 2 ?_);obtain⟨j,H⟩:=g H;refine Q 81 j 9 (p [2] [64]<|J 1 ?_);cases H;exact t
   refine E 63 (cN D) 5 ?_;obtain⟨ae,k,H⟩:=N H;refine Y (X2 k) (I 5 ?_);cases H;exact t
  refine J 2 ?_;obtain⟨af,n,H⟩:=N H;refine Y (Qm n) (I 1 ?_);obtain⟨F,H⟩|⟨F,H⟩:=aa H
  ·refine Q 44 F 2 (W O O ?_);obtain⟨ag,o,H⟩:=N H;refine Y (KL o) (I 3 ?_);obtain⟨q,H⟩:=g H;refine Q 50 (cN q) 1 (W O O ?_);obtain⟨ah,s,H⟩:=N H;refine Y (Qm s) (I 2 ?_);obtain⟨G,H⟩|⟨G,H⟩:=aa H
   ·exact Q 54 (cN G) 7 (l [1,3,60] []<|m [] H)
   exact Q 54 (cN G) 7 (l [1,3,60] []<|m [] H)
  refine Q 44 F 7 (W O O ?_);obtain⟨ai,u,H⟩:=N H;refine Y (Qm u) (I 2 ?_);obtain⟨L,H⟩|⟨L,H⟩:=aa H
  ·exact Q 54 (cN L) 7 (l [1,3,60] []<|m [] H)
  exact Q 54 (cN L) 7 (l [1,3,60] []<|m [] H)
 refine J 6 (gL (fun A:Int=>mk [(1,.one<|.ptr<|.nm 64 0 0),(3,.one<|.d<|.str U),(11,Z A)] [(64,.vars 17<|zeJ C)] (lk [])) H (zU [] (sR O O) (blR O) (bkR O O O) P) ?_);intro V A H;refine J 6 ?_;obtain⟨M,H⟩|⟨M,H⟩:=zL H
 ·refine E 12 (dT M) 14 ?_;obtain⟨v,w,H⟩:=N H;refine zbe eC K w (zfA eC aq (XP 64 0 0 v) (Ec O<|Ec K En)<|I 1<|zia K bZ<|I 3<|gJ (fun B:Bool=>(Zl V A) B=some r) (fun B=>mk [(1,.one<|.ptr<|.nm 64 0 0),(3,.one<|.d<|.str U),(11,Z A),(40,oB B)] [(64,.vars 17<|zeJ C)] (lk [])) ?_ ?_)
  ·intro B H;obtain⟨x,H⟩:=zn H;exact E 40 (nt x) 8 (m [] H)
  refine J 3 ?_;obtain⟨aj,y,H⟩:=N H;refine zbe eC K y ?_;obtain⟨ak,z,H⟩:=N H;refine Y (Qm z) (I 1 ?_);obtain⟨R,H⟩|⟨R,H⟩:=zL H
  ·refine Q 23 R 1 (W O O ?_);obtain⟨al,a2,H⟩:=N H;refine zbe eC K a2 (I 1<|W O O ?_);obtain⟨am,a3,H⟩:=N H;refine Y (zd6 a3) (I 3 ?_);obtain⟨a4,H⟩:=g H;refine Q 30 (cN a4) 2 (W O O ?_);obtain⟨an,a5,H⟩:=N H;refine zbe eC K a5 (W O O ?_);obtain⟨ao,a6,H⟩:=N H;refine Y (Qm a6) (I 2 ?_);obtain⟨S,H⟩|⟨S,H⟩:=zL H
   ·exact Q 36 (cN S) 5 (l [1,3,11,40] []<|m [] H)
   exact Q 36 (cN<|nt S) 5 (l [1,3,11,40] []<|m [] H)
  refine Q 23 (nt R) 9 (W O O ?_);obtain⟨ap,a7,H⟩:=N H;refine zbe eC K a7 (W O O ?_);obtain⟨ar,a8,H⟩:=N H;refine Y (Qm a8) (I 2 ?_);obtain⟨T,H⟩|⟨T,H⟩:=zL H
  ·exact Q 36 (cN T) 5 (l [1,3,11,40] []<|m [] H)
  exact Q 36 (cN<|nt T) 5 (l [1,3,11,40] []<|m [] H)
 exact E 12 (dF M) 5 (m [] H)
theorem zcp{b:List Int}{r:(qg×Int)}(H:Zk b=some r):Fn Tryz.prog 324 (lent [.sl 1 (b.map qc)]) true [.agg (qY r.1),.int .i64 r.2]:=by
 refine X zJs (J 9 ?_);obtain⟨L,h3,H⟩:=N H;refine Y (zdT h3) (I 15 ?_);obtain⟨h4,H⟩:=zn H;refine Q 19 (dF h4) 2 (W O O<|qb K (n:=b.length) lm<|I 4<|p [24,4,2] [] ?_);obtain⟨h5,H⟩:=zn H;refine E 24 (dF h5) 4 (zk2 (t:=4) O ?_);intro w6;refine J 8 (zj<|d 3<|u<|I 3<|zj<|d 1<|y3 (t:=mk [(30,.one<|.ptr<|.nm 1792 0 0),(8,.one<|.ptr<|.nm 512 0 0),(29,.agg [B 0,B 0,B 0,B 0,B 0,B 0,B 0,B 0,B 0,B 0,B 0,B 0,B 0,B 0,.zs,.zs,.zs]),(7,.one<|.ptr<|.nm 1792 0 0),(28,.one<|.ptr<|.nm 1792 0 0),(27,.agg [.d (.both w6<|.sl 1<|L.1.map qc),B 0,.d<|.bool true]),(26,.one<|.d<|.both w6<|.sl 1<|L.1.map qc),(4,.one<|.d<|.both w6<|.sl 1<|L.1.map qc),(24,oB false),(24,oB<|decide (¬L.2.1=(b.length:Int))),(4,.one<|.d<|.sl 1<|L.1.map qc),(2,.one<|.ptr<|.nm 128 0 0)] [(1792,.vars 3 [.d (.pin w6),B 0,.d<|.bool true]),(512,.vars 17 [B 0,B 0,B 0,B 0,B 0,B 0,B 0,B 0,B 0,B 0,B 0,B 0,B 0,B 0,.zs,.zs,.zs]),(512,.vars 17 [B 0,B 0,B 0,B 0,B 0,B 0,B 0,B 0,B 0,B 0,B 0,B 0,B 0,B 0,.zs,.zs,.zs]),(1792,.vars 3 [.d (.both w6<|.sl 1<|L.1.map qc),B 0,.d<|.bool true]),(128,.vars 17 [B 0,B 0,B 0,B 0,B 0,B 0,B 0,B 0,B 0,B 0,B 0,B 0,B 0,B 0,.zs,.zs,.zs])] (lk [])) (zjQ 1792 0 (bR O) O zzj O) ?_);obtain⟨M,h8,H⟩:=N H;refine zaF (t:=26) (v0:=w6) (hg:=O) (ON:=[1792]) (ls:=[]) (G:=[]) (E:=[zI 1792]) (MB:=[(1792,.vars 3 [.d (.pin w6),B M.2.1,.d<|.bool M.2.2])]) (u:=Z M.1) eC aq (ZM h8) (Ec K En) (aG (aF (es:=[.pin w6,.int .i64 0,.bool true]) bZ O O O) aw) O O O (jI bZ O av) (eT O) (hT O) ar O O (u<|I 8 ?_);obtain⟨v9,c,H⟩:=N H;refine Y (JX c) (I 3<|p [9,8,7,4,2] []<|J 9 ?_);obtain⟨e,H⟩:=g H;refine Q 41 (cN e) 5 ?_;obtain⟨h,H⟩:=zn H;refine E 44 (nt h) 3 (p [9,8,7,4,2] []<|gJ (fun C:(Int×Int×Int×Int×Int×Int×Int×Int×Int×Int×Int×Int×Int×List zD×List zN×List zA×Int×Bool)=>(Qs L M) C=some r) (fun C=>mk [(2,.one<|.ptr<|.nm 128 0 0),(4,.one<|.d<|.both w6<|.sl 1<|L.1.map qc),(7,.one<|.ptr<|.nm 1792 0 0),(8,.one<|.ptr<|.nm 512 0 0)] [(128,.vars 17 [B 0,B 0,B 0,B 0,B 0,B 0,B 0,B 0,B 0,B 0,B 0,B 0,B 0,B 0,.zs,.zs,.zs]),(320256,.data 2 (List.map zh C.2.2.2.2.2.2.2.2.2.2.2.2.2.1) true none),(320320,.data 3 (List.map zg C.2.2.2.2.2.2.2.2.2.2.2.2.2.2.1) true none),(320384,.data 5 (List.map zi C.2.2.2.2.2.2.2.2.2.2.2.2.2.2.2.1) true none),(512,.vars 17 [B M.1,B C.1,B C.2.1,B C.2.2.1,B C.2.2.2.1,B C.2.2.2.2.1,B C.2.2.2.2.2.1,B C.2.2.2.2.2.2.1,B C.2.2.2.2.2.2.2.1,B C.2.2.2.2.2.2.2.2.1,B C.2.2.2.2.2.2.2.2.2.1,B C.2.2.2.2.2.2.2.2.2.2.1,B C.2.2.2.2.2.2.2.2.2.2.2.1,B C.2.2.2.2.2.2.2.2.2.2.2.2.1,ah 320256 C.2.2.2.2.2.2.2.2.2.2.2.2.2.1,ah 320320 C.2.2.2.2.2.2.2.2.2.2.2.2.2.2.1,ah 320384 C.2.2.2.2.2.2.2.2.2.2.2.2.2.2.2.1]),(1792,.vars 3 [.d (.pin w6),B C.2.2.2.2.2.2.2.2.2.2.2.2.2.2.2.2.1,.d<|.bool C.2.2.2.2.2.2.2.2.2.2.2.2.2.2.2.2.2])] (lk [])) ?_ ?_)
 ·intro C H;refine J 12 ?_;obtain⟨i,H⟩:=g H;refine E 107 (cN i) 8 (zh5 K (n:=L.1.length) lm<|I 4<|p [114,2,8] [1792] ?_);obtain⟨j,H⟩:=zn H;refine E 114 (dF j) 4 ?_;obtain⟨a7,k,H⟩:=N H;refine Y (YM k) (I 4 ?_);obtain⟨q,H⟩:=g H;refine E 123 (cN q) 5 (zj<|d 2<|u<|I 4 ?_);cases H;exact t
 refine J 6 (gL (fun A:(Int×Int×Int×Int×Int×Int×Int×Int×Int×Int×Int×Int×Int×Int×List zD×List zN×List zA×Int×Bool)=>mk [(2,.one<|.ptr<|.nm 128 0 0),(4,.one<|.d<|.both w6<|.sl 1<|L.1.map qc),(7,.one<|.ptr<|.nm 1792 0 0),(8,.one<|.ptr<|.nm 512 0 0),(9,.one<|.d<|.str v9),(10,Z A.1)] [(128,.vars 17 [B 0,B 0,B 0,B 0,B 0,B 0,B 0,B 0,B 0,B 0,B 0,B 0,B 0,B 0,.zs,.zs,.zs]),(320448,.data 2 (List.map zh A.2.2.2.2.2.2.2.2.2.2.2.2.2.2.1) true none),(320512,.data 3 (List.map zg A.2.2.2.2.2.2.2.2.2.2.2.2.2.2.2.1) true none),(320576,.data 5 (List.map zi A.2.2.2.2.2.2.2.2.2.2.2.2.2.2.2.2.1) true none),(512,.vars 17 [B M.1,B A.2.1,B A.2.2.1,B A.2.2.2.1,B A.2.2.2.2.1,B A.2.2.2.2.2.1,B A.2.2.2.2.2.2.1,B A.2.2.2.2.2.2.2.1,B A.2.2.2.2.2.2.2.2.1,B A.2.2.2.2.2.2.2.2.2.1,B A.2.2.2.2.2.2.2.2.2.2.1,B A.2.2.2.2.2.2.2.2.2.2.2.1,B A.2.2.2.2.2.2.2.2.2.2.2.2.1,B A.2.2.2.2.2.2.2.2.2.2.2.2.2.1,ah 320448 A.2.2.2.2.2.2.2.2.2.2.2.2.2.2.1,ah 320512 A.2.2.2.2.2.2.2.2.2.2.2.2.2.2.2.1,ah 320576 A.2.2.2.2.2.2.2.2.2.2.2.2.2.2.2.2.1]),(1792,.vars 3 [.d (.pin w6),B A.2.2.2.2.2.2.2.2.2.2.2.2.2.2.2.2.2.1,.d<|.bool A.2.2.2.2.2.2.2.2.2.2.2.2.2.2.2.2.2.2])] (lk [])) H (au (zbv 320448 2 512 14 true (cs:=[B M.1,B 0,B 0,B 0,B 0,B 0,B 0,B 0,B 0,B 0,B 0,B 0,B 0,B 0,.zs,.zs,.zs]) bZ O<|nR O)<|au (zbv 320512 3 512 15 true (cs:=[B M.1,B 0,B 0,B 0,B 0,B 0,B 0,B 0,B 0,B 0,B 0,B 0,B 0,B 0,.sl 320448 0 0,.zs,.zs]) bZ O<|nR O)<|au (zbv 320576 5 512 16 true (cs:=[B M.1,B 0,B 0,B 0,B 0,B 0,B 0,B 0,B 0,B 0,B 0,B 0,B 0,B 0,.sl 320448 0 0,.sl 320512 0 0,.zs]) bZ O<|nR O)<|zU [] (sR O O) (blR O) (f O (bR O) O O<|f O (bR O) O O<|f O (bR O) O O<|f O (bR O) O O<|f O bZ O (by first|exact rfl|(simp;done)|(simp;exact O)) (bkR O O O)) P) ?_);intro a6 A H;refine J 8 ?_;obtain⟨S,H⟩|⟨S,H⟩:=ab H
 ·refine Q 50 S 7 (p [55,2,4,7,8,9,10] [] ?_);obtain⟨s,H⟩:=g H;refine E 55 s 9 ?_;obtain⟨a8,v,H⟩:=N H;refine zbe O K v (I 9 ?_);obtain⟨T,H⟩|⟨T,H⟩:=ab H
  ·refine E 68 T 2 (zj<|d 1 ?_);obtain⟨D,w,H⟩:=N H;refine zaF (t:=4) (v0:=w6) (hg:=O) (ON:=[1792]) (ls:=[]) (G:=[]) (E:=[zI 1792]) (MB:=[(1792,.vars 3 [.d (.pin w6),B D.2.1,.d<|.bool D.2.2])]) (u:=Z D.1) eC aq (Z4 w) (Ec K En) (aG (aF (es:=[.pin w6,.int .i64 A.2.2.2.2.2.2.2.2.2.2.2.2.2.2.2.2.2.1,.bool A.2.2.2.2.2.2.2.2.2.2.2.2.2.2.2.2.2.2]) (bR O) O O O) aw) O O O (jI (bR O) O av) (eT O) (hT O) ar O O (u<|I 5<|p [2,4,7,8,9,10] []<|J 1<|zj<|d 1 ?_);obtain⟨F,x,H⟩:=N H;refine zaF (t:=4) (v0:=w6) (hg:=O) (ON:=[1792]) (ls:=[]) (G:=[]) (E:=[zI 1792]) (MB:=[(1792,.vars 3 [.d (.pin w6),B F.2.1,.d<|.bool F.2.2])]) (u:=Z F.1) eC aq (Z4 x) (Ec K En) (aG (aF (es:=[.pin w6,.int .i64 D.2.1,.bool D.2.2]) (bR O) O O O) aw) O O O (jI (bR O) O av) (eT O) (hT O) ar O O (u<|I 5<|zj<|d 1 ?_);obtain⟨U,y,H⟩:=N H;exact zaF (t:=4) (v0:=w6) (hg:=O) (ON:=[1792]) (ls:=[]) (G:=[]) (E:=[zI 1792]) (MB:=[(1792,.vars 3 [.d (.pin w6),B U.2.1,.d<|.bool U.2.2])]) (u:=Z U.1) eC aq (Z4 y) (Ec K En) (aG (aF (es:=[.pin w6,.int .i64 F.2.1,.bool F.2.2]) (bR O) O O O) aw) O O O (jI (bR O) O av) (eT O) (hT O) ar O O (u<|I 12<|l [2,4,7,8,9,10] []<|m [] H)
  refine E 68 T 7 (p [82,60,2,4,7,8,9,10] [] ?_);obtain⟨V,H⟩|⟨V,H⟩:=ab H
  ·refine E 82 V 1 (zj<|d 7 ?_);obtain⟨a9,z,H⟩:=N H;refine zY (zCN (aR (aM zkQ<|aM am aU)<|zcx z) ?_);exact o (d 6<|u<|I 10<|p [2,4,7,8,9,10] [320448,320512,320576]<|J 5<|zP (zF 5889 320448 O O (nR O) R)<|zP (zF 5890 320512 O O (nR O) R)<|zP (zF 5891 320576 O O (nR O) R)<|m [] H)
  refine E 82 V 7 ?_;obtain⟨a2,H⟩:=zn H;refine E 101 (dF a2) 1 (zj<|d 2 ?_);obtain⟨a3,a4,H⟩:=N H;refine zY (zbe O K a4<|o<|zY<|zfA eC aq (XP 512 0 0 a3) (Ec O<|Ec K En)<|o<|d 1 ?_);obtain⟨a,a5,H⟩:=N H;exact zaF (t:=4) (v0:=w6) (hg:=O) (ON:=[1792]) (ls:=[]) (G:=[]) (E:=[zI 1792]) (MB:=[(1792,.vars 3 [.d (.pin w6),B a.2.1,.d<|.bool a.2.2])]) (u:=Z a.1) eC aq (Z4 a5) (Ec K En) (aG (aF (es:=[.pin w6,.int .i64 A.2.2.2.2.2.2.2.2.2.2.2.2.2.2.2.2.2.1,.bool A.2.2.2.2.2.2.2.2.2.2.2.2.2.2.2.2.2.2]) (bR O) O O O) aw) O O O (jI (bR O) O av) (eT O) (hT O) ar O O (u<|I 1<|zkb K O (bR O)<|I 4<|p [2,4,7,8,9,10] []<|J 5<|m [] H)
 exact Q 50 S 7 (p [55,2,4,7,8,9,10] []<|J 5<|zP (zF 320448 320256 O O (nR O) R)<|zP (zF 320512 320320 O O (nR O) R)<|zP (zF 320576 320384 O O (nR O) R)<|m [] H)
theorem ZQ{i:zb}{j:qg}{n:Int}{F:(ze→Option ze)}{fid:FuncId}{cd0:List D}(hF:∀{k r:ze},F k=some r→Fn Tryz.prog fid [⟨.ptr [.int .i64 k.Replica.Me,.int .i64 k.Replica.Of,.int .i64 k.Replica.Mode,.int .i64 k.Replica.View,.int .i64 k.Replica.Normal,.int .i64 k.Replica.Commit,.int .i64 k.Replica.Log.Base,.sl 2<|List.map zh k.Replica.Log.Image.Cells,.sl 3<|List.map zg k.Replica.Log.Image.Seats,.sl 5<|List.map zi k.Replica.Log.Entries,.sl 10<|List.map zu k.Replica.Votes,.int .i64 k.Replica.Cell,.int .i64 k.Replica.Nonce,.sl 18<|List.map zR k.outs],.m<|.ptr [.int .i64 r.Replica.Me,.int .i64 r.Replica.Of,.int .i64 r.Replica.Mode,.int .i64 r.Replica.View,.int .i64 r.Replica.Normal,.int .i64 r.Replica.Commit,.int .i64 r.Replica.Log.Base,.sl 2<|List.map zh r.Replica.Log.Image.Cells,.sl 3<|List.map zg r.Replica.Log.Image.Seats,.sl 5<|List.map zi r.Replica.Log.Entries,.sl 10<|List.map zu r.Replica.Votes,.int .i64 r.Replica.Cell,.int .i64 r.Replica.Nonce,.sl 18<|List.map zR r.outs]⟩,⟨.ptr cd0,.b⟩] true []){r:(zb×List jJ)}(H:yz i j n F=some r):Fn Tryz.prog 412 (lent [.agg (zm i),.agg<|qY j,.int .i64 n,.fn fid [.ptr cd0]]) true [.agg (zm r.1),.sl 18<|List.map zR r.2]:=by
 refine X zFH (J 12 ?_);obtain⟨v4,s,H⟩:=N H;refine Y (yp s) (I 3 ?_);obtain⟨v,H⟩:=g H;refine E 14 (cN v) 6 ?_;obtain⟨C,w,H⟩:=N H;refine zCN (Zr w) ?_;refine I 5 (p [10,8,5,4,2,3] []<|J 3 ?_);obtain⟨v9,S,H⟩:=N H;refine Y (YM S) (I 1 ?_);obtain⟨T,H⟩:=g H;refine Q 22 T 8 (p [11,10,8,5,4,2,3] []<|gJ (fun P:Bool=>(YF F C) P=some r) (fun P=>mk [(3,.one<|.fn fid [.bd cd0 0]),(8,.one<|.ptr<|.nm 512 0 0),(10,.one<|.ptr<|.nm 1216 0 0),(11,oB P)] [(512,.vars 13 [B 0,B 0,B 0,B 0,B 0,B 0,B 0,.zs,.zs,.zs,.zs,B 0,B 0]),(1095,.data 2 (C.Log.Image.Cells.map zh) true none),(1096,.data 3 (C.Log.Image.Seats.map zg) true none),(1097,.data 5 (C.Log.Entries.map zi) true none),(1098,.data 10 (C.Votes.map zu) true none),(1216,.vars 14 [B C.Me,B C.Of,B C.Mode,B C.View,B C.Normal,B C.Commit,B C.Log.Base,ah 1095 C.Log.Image.Cells,ah 1096 C.Log.Image.Seats,ah 1097 C.Log.Entries,ah 1098 C.Votes,B C.Cell,B C.Nonce,.zs])] (lk [])) ?_ ?_)
 ·intro P H;refine J 6 ?_;obtain⟨U,H⟩:=g H;refine E 47 U 1 (zj<|d 2<|rmF<|zaA 1216 (ds:=[.int .i64 C.Me,.int .i64 C.Of,.int .i64 C.Mode,.int .i64 C.View,.int .i64 C.Normal,.int .i64 C.Commit,.int .i64 C.Log.Base,.sl 2<|C.Log.Image.Cells.map zh,.sl 3<|C.Log.Image.Seats.map zg,.sl 5<|C.Log.Entries.map zi,.sl 10<|C.Votes.map zu,.int .i64 C.Cell,.int .i64 C.Nonce,.sl 18<|List.map zR ([]:List jJ)]) (ns:=[1095,1096,1097,1098]) (bR O) (A (G O)<|A (G O)<|A (G O)<|A (G O)<|A (G O)<|A (G O)<|A (G O)<|A (ap (bR O) lm (qf fun _=>O))<|A (ap (bR O) lm (qf fun _=>O))<|A (ap (bR O) lm (qf fun _=>O))<|A (KO (bR O) lm O)<|A (G O)<|A (G O)<|A VO.zs aI) O O (eT O) (hK O<|L O<|L O<|L O<|L O<|ak (.vars 14 [B C.Me,B C.Of,B C.Mode,B C.View,B C.Normal,B C.Commit,B C.Log.Base,.any,.any,.any,.any,B C.Cell,B C.Nonce,.zs]) O O ax) ar O ?_);obtain⟨M,V,H⟩:=N H;refine zrC (hF V) ?_;refine zrS 1216 1217 1279 ?_;refine qD (u<|I 3<|aQ [512]<|qx O O<|zV O<|o<|qx O O<|ql K<|o<|qx O O<|zx (m:=0) K O<|o<|qx O O<|yQ (es:=jn M.Replica (ah 1224 M.Replica.Log.Image.Cells) (ah 1225 M.Replica.Log.Image.Seats) (ah 1226 M.Replica.Log.Entries) (ah 1227 M.Replica.Votes)) K bZ O<|o<|qx O O<|zV O<|o<|qx O O<|ql K<|o<|qx O O<|zx (m:=13) K O<|o<|Kn (q:=13) (c:=ah 1230 M.outs) O K O O bZ O O O<|Kb (es:=jn M.Replica (ah 1224 M.Replica.Log.Image.Cells) (ah 1225 M.Replica.Log.Image.Seats) (ah 1226 M.Replica.Log.Entries) (ah 1227 M.Replica.Votes)) O O O O O O (hB O<|bR O) O<|qx O O<|zV K<|o<|zcO<|gO 1<|p [9,8] [1216]<|J 1 ?_);cases H;exact t
 refine J 4 ?_;obtain⟨Z,H⟩:=g H;refine Q 29 (dT Z) 1 (W O O ?_);obtain⟨x,a,H⟩:=N H;refine Y (JX a) (W O O ?_);obtain⟨y,e,H⟩:=N H;refine Y (Qm e) (I 3 ?_);obtain⟨R,H⟩|⟨R,H⟩:=aa H
 ·refine E 33 R 7 ?_;obtain⟨z,f,H⟩:=N H;refine Y (qF f) (I 1 ?_);obtain⟨h,H⟩:=g H;exact Q 40 h 8 (l [3,8,10,11] [320,256]<|m [] H)
 exact E 33 R 2 (l [3,8,10,11] [320,256]<|m [] H)
theorem jV{A:ze}{r:Bool}(H:qM A=some r):Fn Tryz.prog 58 (lent [.ptr (Qh A)]) true [.bool r]:=by
 refine X f58 (J 22 ?_);obtain⟨B,H⟩:=g H;refine zfS O K B (I 4<|p [2] []<|J 1 ?_);cases H;exact t
theorem X6{A:zN}{B:Int}{r:Int}(H:JF A B=some r):Fn Tryz.prog 421 (lent [.agg (zg A),.int .i64 B]) true [.int .i64 r]:=by
 refine X zIG (J 16 ?_);cases H;exact t
theorem Z1{A:List zN}{C:Int}{r:(Int×Bool)}(H:qJ A C=some r):Fn Tryz.prog 420 (lent [.sl 3 (A.map zg),.int .i64 C,.fn 421 []]) true [.int .i64 r.1,.bool r.2]:=by
 refine X zKW (J 9<|qb K (n:=A.length) lm<|I 10<|gJ (fun F:Unit=>(qH A C) F=some r) (fun F=>mk [(0,.one<|.d<|.sl 3<|A.map zg),(1,Z C),(2,.one<|.fn 421 []),(8,Z (A.length:Int)),(9,Z 0)] [] (lk [])) ?_ ?_)
 ·intro F H;refine J 7 ?_;obtain⟨G,H⟩|⟨G,H⟩:=ab H
  ·refine Q 39 G 3 (W O O ?_);obtain⟨b,T,H⟩:=N H;refine jM O K T (I 2<|W O O ?_);obtain⟨c,U,H⟩:=N H;refine Y (X6 U) (I 6<|p [7,6] []<|J 1 ?_);cases H;exact t
  refine Q 39 G 13 (p [7,6] []<|J 1 ?_);cases H;exact t
 refine J 1 (gL (fun D:Int=>mk [(0,.one<|.d<|.sl 3<|A.map zg),(1,Z C),(2,.one<|.fn 421 []),(8,Z (A.length:Int)),(9,Z 0),(10,Z D)] [] (lk [])) H (zU [] (sR O O) az s P) ?_);intro S D H;refine J 8 ?_;obtain⟨B,H⟩|⟨B,H⟩:=ab H
 ·refine E 17 B 10 (zgS K eC (by decide)<|I 4<|p [11,0,1,2,8,9,10] []<|J 5 ?_);obtain⟨V,L,H⟩:=N H;refine jM O K L (I 2 ?_);obtain⟨a,M,H⟩:=N H;refine Y (X6 M) (I 3 ?_);obtain⟨R,H⟩:=zn H;exact E 31 (dF R) 6 (l [0,1,2,8,9,10] []<|m [] H)
 exact E 17 B 5 (l [0,1,2,8,9] []<|m [] H)
theorem zai{A:zB}{B:Int}{r:(Int×Bool)}(H:YT A B=some r):Fn Tryz.prog 380 (lent [.agg (jU A),.int .i64 B]) true [.int .i64 r.1,.bool r.2]:=by
 refine X zIh (J 12 ?_);obtain⟨D,C,H⟩:=N H;refine Y (Z1 C) (I 7 ?_);cases H;exact t
theorem X1{A:zD}{B:Int}{r:Int}(H:yr A B=some r):Fn Tryz.prog 390 (lent [.agg (zh A),.int .i64 B]) true [.int .i64 r]:=by
 refine X zK6 (J 16 ?_);cases H;exact t
theorem Z0{A:List zD}{F:Int}{r:(Int×Bool)}(H:zX A F=some r):Fn Tryz.prog 389 (lent [.sl 2 (A.map zh),.int .i64 F,.fn 390 []]) true [.int .i64 r.1,.bool r.2]:=by
 refine X zKp (J 9<|qb K (n:=A.length) lm<|I 10<|gJ (fun G:Int=>(zW A F) G=some r) (fun G=>mk [(0,.one<|.d<|.sl 2<|A.map zh),(1,Z F),(2,.one<|.fn 390 []),(8,Z (A.length:Int)),(9,Z G)] [] (lk [])) ?_ ?_)
 ·intro G H;refine J 7 ?_;obtain⟨L,H⟩|⟨L,H⟩:=ab H
  ·refine Q 39 L 3 (W O O ?_);obtain⟨b,T,H⟩:=N H;refine jM O K T (I 2<|W O O ?_);obtain⟨c,U,H⟩:=N H;refine Y (X1 U) (I 6<|p [7,6] []<|J 1 ?_);cases H;exact t
  refine Q 39 L 13 (p [7,6] []<|J 1 ?_);cases H;exact t
 refine J 1 (gL (fun B:(Int×Int)=>mk [(0,.one<|.d<|.sl 2<|A.map zh),(1,Z F),(2,.one<|.fn 390 []),(8,Z (A.length:Int)),(9,Z B.1),(10,Z B.2)] [] (lk [])) H (zU [] (sR O O) az s P) ?_);intro S B H;refine J 8 ?_;obtain⟨C,H⟩|⟨C,H⟩:=ab H
 ·refine E 17 C 10 (zgS K eC (by decide)<|I 4<|p [11,0,1,2,8,9,10] []<|J 5 ?_);obtain⟨V,M,H⟩:=N H;refine jM O K M (I 2 ?_);obtain⟨a,R,H⟩:=N H;refine Y (X1 R) (I 3 ?_);obtain⟨D,H⟩|⟨D,H⟩:=ab H
  ·exact E 31 D 7 (l [0,1,2,8,9,10] []<|m [] H)
  exact E 31 D 6 (l [0,1,2,8,9,10] []<|m [] H)
 exact E 17 C 5 (l [0,1,2,8,9] []<|m [] H)
theorem zax{A:List zD}{B:Int}{r:(Int×Bool)}(H:jl A B=some r):Fn Tryz.prog 360 (lent [.sl 2 (A.map zh),.int .i64 B]) true [.int .i64 r.1,.bool r.2]:=by
 refine X zIr (J 10 ?_);obtain⟨D,C,H⟩:=N H;refine Y (Z0 C) (I 7 ?_);cases H;exact t
theorem zdI{B:List zD}{C:Int}{r:Int}(H:j6 B C=some r):Fn Tryz.prog 359 (lent [.sl 2 (B.map zh),.int .i64 C]) true [.int .i64 r]:=by
 refine X zLy (J 9 ?_);obtain⟨G,D,H⟩:=N H;refine Y (zax D) (I 14 ?_);obtain⟨A,H⟩|⟨A,H⟩:=aa H
 ·refine E 14 (cN A) 7 ?_;obtain⟨L,F,H⟩:=N H;refine jM O K F (I 5<|p [4] []<|J 1 ?_);cases H;exact t
 refine E 14 (cN A) 8 ?_;cases H;exact t
theorem zaa{A:List zD}{C D:Int}{r:List zD}(H:QY A C D=some r):Fn Tryz.prog 361 [⟨.sl 2<|A.map zh,.g⟩,⟨.int .i64 C,.b⟩,⟨.int .i64 D,.b⟩] true [.sl 2 (List.map zh r)]:=by
 obtain⟨⟨E,F,G,I⟩,H⟩:=g H;cases H;obtain⟨i,rfl⟩:∃i:Nat,C=(i:Int):=⟨Int.toNat C,by omega⟩;obtain⟨j,rfl⟩:∃j:Nat,D=(j:Int):=⟨Int.toNat D,by omega⟩;rw[Int.toNat_natCast,Int.toNat_natCast];refine zJN (fle O) (fC nZ O fN) O ?_;rw[XY];exact ao (t:=mk [(0,.one<|ah 0 A),(1,.one<|B (i:Int)),(2,.one<|B (j:Int))] [(0,.data 2 (A.map zh) true none)] (lk [])) (zU (gl:=[]) [] (aC (v:=.one (ah 0 A)) K O (aH<|aW (by simp))<|aC (v:=Z (i:Int)) (eS O K) O aV<|aC (v:=Z (j:Int)) (eS O<|eS O K) O aV aK) (blR O) (f (n:=0) O bZ O O s) P) (zoZ (f:=zh) (zv:=zD.mk 0 0) (sz:=2) (bytes:=16) (zs:=[.int .i64 0,.int .i64 0]) (fun _=>O) O O (by omega) (by omega) (by omega))
theorem zac{A:List zD}{C:Int}{D r:List zD}(H:yN A C D=some r):Fn Tryz.prog 362 [⟨.sl 2<|A.map zh,.g⟩,⟨.int .i64 C,.b⟩,⟨.sl 2<|D.map zh,.g⟩] true [.sl 2 (List.map zh r)]:=by
 obtain⟨⟨F,G,E,I⟩,H⟩:=g H;cases H;obtain⟨i,rfl⟩:∃i:Nat,C=(i:Int):=⟨Int.toNat C,by omega⟩;obtain⟨x,rfl⟩:=List.length_eq_one_iff.1 E;rw[Int.toNat_natCast];refine zJZ (fle O) (fC nZ O<|fC nZ O fN) O ?_;rw[XY];exact ao (t:=mk [(0,.one<|ah 0 A),(1,.one<|B (i:Int)),(2,.one<|.sl 128 0 1)] [(128,.data 2 (List.map zh [x]) true none),(0,.data 2 (A.map zh) true none)] (lk [])) (zU (gl:=[]) [] (aC (v:=.one (ah 0 A)) K O (aH<|aW (by simp))<|aC (v:=Z (i:Int)) (eS O K) O aV<|aC (v:=.one (.sl 128 0 1)) (eS O<|eS O K) O (aH<|aW (by simp)) aK) (blR O) (f (n:=128) O bZ O O<|f (n:=0) O (bR O) O O s) P) (zo2 (f:=zh) (zv:=zD.mk 0 0) (sz:=2) (bytes:=16) (zs:=[.int .i64 0,.int .i64 0]) (ov:=391) (sx:=392) (fun _=>O) O (by decide) (by decide) (by omega) (by omega)<|zo9 (fn:=Tryz.f391) (tS:=35) (tR:=4) (e:=196) Tryz.func391 (by kernel_rfl) (by kernel_rfl) (by kernel_rfl) (by kernel_rfl) Tryz.underlying35 (Option.some_get (by kernel_rfl:(Tryz.prog.info? 196).isSome=true)).symm)
theorem zdi{T:List zD}{F:Int}{A:Int}{r:List zD}(H:jw T F A=some r):Fn Tryz.prog 308 (lent [.sl 2 (T.map zh),.int .i64 F,.int .i64 A]) true [.sl 2 (List.map zh r)]:=by
 refine X zNF (J 9 ?_);obtain⟨W,j,H⟩:=N H;refine Y (zax j) (I 9<|gJ (fun V:Bool=>(yd T W A F) V=some r) (fun V=>mk [(0,.one<|.d<|.sl 2<|T.map zh),(1,Z F),(2,Z A),(7,Z W.1),(8,oB W.2),(16,oB V)] [] (lk [])) ?_ ?_)
 ·intro V H;obtain⟨a,H⟩|⟨a,H⟩:=aa H
  ·refine E 16 a 2 (zj<|d 1 ?_);obtain⟨s,b,H⟩:=N H;refine zY (zCN (y4 b) ?_);refine o (d 3 ?_);obtain⟨M,c,H⟩:=N H;refine zdj (ON:=[1472]) (ls:=[]) (G:=[1472]) (E:=[1472]) (MB:=[]) (u:=.one (ah 1728 M)) (bs:=[(1728,.data 2 (M.map zh) true none)]) eC aq (zaa c) (Ec O<|Ec O<|Ec K En) (aX (ap bZ lm (qf fun _=>O))<|aA Vp O<|aA Vp O aw) O O O av (U O<|U O<|U O<|aj (.one .any) O<|eT O) (L O ax) ar (by simp[ZP,JZ,Zt,QA,jN]) O (fC nZ O<|fC nZ O fN) (u<|I 6 ?_);obtain rfl:=(Option.some.inj H);exact t
  refine E 16 a 8 ?_;obtain⟨B,H⟩|⟨B,H⟩:=ab H
  ·refine E 28 B 4 ?_;obtain⟨k,e,H⟩:=N H;refine zCN (y4 e) ?_;refine I 6 ?_;obtain rfl:=(Option.some.inj H);exact t
  refine E 28 B 7 ?_;obtain⟨C,H⟩|⟨C,H⟩:=aa H
  ·refine E 33 C 4 ?_;obtain⟨n,g,H⟩:=N H;refine zCN (y4 g) ?_;refine I 3 (p [9,2,7] []<|J 5 ?_);obtain⟨P,R,H⟩:=N H;refine zbn O O bZ O R (I 1<|zfG (t:=P) (t':=zD.mk P.Key A) (es:=[.int .i64 A]) K O O O bZ (Yv R) O O<|I 11 ?_);cases H;exact t
  refine E 33 C 5 (zj<|d 1 ?_);obtain⟨q,h,H⟩:=N H;refine zY (zCN (y4 h) ?_);refine o (d 5 ?_);obtain⟨S,i,H⟩:=N H;refine y3 (zgk 3136 (zs:=[]) (f:=zh) (t:=zD.mk F A) bZ O O) (zdj (ON:=[2816,3136]) (ls:=[]) (G:=[2816,3136]) (E:=[2816,3136]) (MB:=[]) (u:=.one (ah 3200 S)) (bs:=[(3200,.data 2 (S.map zh) true none)]) eC aq (zac i) (Ec O<|Ec O<|Ec K En) (aX (ap (bR O) lm (qf fun _=>O))<|aA Vp O<|aX (ap bZ O (qf fun _=>O)) aw) O O O av (aj (.one .any) O<|U O<|U O<|U O<|U O<|aj (.one .any) O<|eT O) (L O<|L O<|L O ax) ar (by simp[ZP,JZ,Zt,QA,jN]) O (fC nZ O<|fC nZ O fN)<|u<|I 3<|p [6] []<|J 1 ?_);obtain rfl:=(Option.some.inj H);exact t
 refine J 4 ?_;obtain⟨D,H⟩|⟨D,H⟩:=zL H
 ·exact Q 19 (dT D) 4 (l [0,1,2,7,8,16] []<|m [] H)
 exact Q 19 (dF D) 4 (l [0,1,2,7,8,16] []<|m [] H)
theorem zhk{U:zB}{A:qX}{r:(zB×Int)}(H:qG U A=some r):Fn Tryz.prog 381 (lent [.agg (jU U),.agg<|KM A]) true [.agg (jU r.1),.int .i64 r.2]:=by
 refine X zKY (J 9<|zj<|d 1 ?_);obtain⟨C,W,H⟩:=N H;refine zY (zCN (xw W) ?_);refine o (d 1<|u<|I 8 ?_);obtain⟨V,a,H⟩:=N H;refine Y (zdI a) (I 10<|p [7,6,4,3,2] []<|gJ (fun D:Int=>(yL V C A) D=some r) (fun D=>mk [(2,.one<|.ptr<|.nm 128 0 0),(3,.one<|.ptr<|.nm 192 0 0),(4,.one<|.ptr<|.nm 256 0 0),(6,Z V),(7,Z D)] [(128,.vars 2 [ah 576 C.Cells,ah 577 C.Seats]),(192,.vars 3 [B A.Kind,B A.Key,B A.Value]),(256,.vars 2 [.zs,.zs]),(576,.data 2 (C.Cells.map zh) true none),(577,.data 3 (C.Seats.map zg) true none)] (lk [])) ?_ ?_)
 ·intro D H;refine J 1 (gJ (fun P:Unit=>(yM D C A) P=some r) (fun P=>mk [(2,.one<|.ptr<|.nm 128 0 0),(3,.one<|.ptr<|.nm 192 0 0),(4,.one<|.ptr<|.nm 256 0 0),(7,Z D),(50,oB<|decide (1000000000 < D))] [(128,.vars 2 [ah 576 C.Cells,ah 577 C.Seats]),(192,.vars 3 [B A.Kind,B A.Key,B A.Value]),(256,.vars 2 [.zs,.zs]),(576,.data 2 (C.Cells.map zh) true none),(577,.data 3 (C.Seats.map zg) true none)] (lk [])) ?_ ?_)
  ·intro P H;obtain⟨F,H⟩|⟨F,H⟩:=ab H
   ·refine E 50 F 2 (zj<|d 2<|u<|I 5 ?_);cases H;exact t
   refine E 50 F 4 (zj<|d 5 ?_);obtain⟨b,R,H⟩:=N H;refine zY (zCN (zdi R) ?_);refine o (d 2<|u<|I 3<|zj<|d 3<|u<|I 3<|p [5,4] [128,192,576]<|J 1 ?_);cases H;exact t
  refine J 4 ?_;obtain⟨G,H⟩|⟨G,H⟩:=ab H
  ·refine Q 41 G 6 ?_;obtain⟨S,H⟩:=zn H;exact Q 47 (dF S) 4 (l [2,3,4,7,50] []<|m [] H)
  exact Q 41 G 10 (l [2,3,4,7,50] []<|m [] H)
 refine J 13 ?_;obtain⟨K,H⟩|⟨K,H⟩:=zL H
 ·refine E 19 (dT K) 2 (zj<|d 3<|u<|I 6 ?_);cases H;exact t
 refine E 19 (dF K) 7 ?_;obtain⟨L,H⟩|⟨L,H⟩:=zL H
 ·refine E 23 (dT L) 2 (zj<|d 4 ?_);obtain⟨c,T,H⟩:=N H;refine zY (zCN (zdi T) ?_);refine o (d 2<|u<|I 2<|p [6,4,2] [576,192]<|J 1<|zj<|d 3<|u<|I 6 ?_);cases H;exact t
 refine E 23 (dF L) 7 ?_;obtain⟨M,H⟩|⟨M,H⟩:=zL H
 ·exact E 33 (dT M) 9 (l [2,3,4,6,7] []<|m [] H)
 exact E 33 (dF M) 3 (l [2,3,4,6,7] []<|m [] H)
theorem zaj{A:List zN}{C:Int}{D r:List zN}(H:x5 A C D=some r):Fn Tryz.prog 382 [⟨.sl 3<|A.map zg,.g⟩,⟨.int .i64 C,.b⟩,⟨.sl 3<|D.map zg,.g⟩] true [.sl 3 (List.map zg r)]:=by
 obtain⟨⟨F,G,E,I⟩,H⟩:=g H;cases H;obtain⟨i,rfl⟩:∃i:Nat,C=(i:Int):=⟨Int.toNat C,by omega⟩;obtain⟨x,rfl⟩:=List.length_eq_one_iff.1 E;rw[Int.toNat_natCast];refine zNk (fle O) (fC nZ O<|fC nZ O fN) O ?_;rw[XY];exact ao (t:=mk [(0,.one<|ah 0 A),(1,.one<|B (i:Int)),(2,.one<|.sl 128 0 1)] [(128,.data 3 (List.map zg [x]) true none),(0,.data 3 (A.map zg) true none)] (lk [])) (zU (gl:=[]) [] (aC (v:=.one (ah 0 A)) K O (aH<|aW (by simp))<|aC (v:=Z (i:Int)) (eS O K) O aV<|aC (v:=.one (.sl 128 0 1)) (eS O<|eS O K) O (aH<|aW (by simp)) aK) (blR O) (f (n:=128) O bZ O O<|f (n:=0) O (bR O) O O s) P) (zo2 (f:=zg) (zv:=zN.mk 0 0 0) (sz:=3) (bytes:=24) (zs:=[.int .i64 0,.int .i64 0,.int .i64 0]) (ov:=422) (sx:=423) (fun _=>O) O (by decide) (by decide) (by omega) (by omega)<|zo9 (fn:=Tryz.f422) (tS:=36) (tR:=4) (e:=233) Tryz.func422 (by kernel_rfl) (by kernel_rfl) (by kernel_rfl) (by kernel_rfl) Tryz.underlying36 (Option.some_get (by kernel_rfl:(Tryz.prog.info? 233).isSome=true)).symm)
theorem KS{D:zB}{B:zA}{r:(zB×Int×Int)}(H:yc D B=some r):Fn Tryz.prog 334 (lent [.agg (jU D),.agg<|zi B]) true [.agg (jU r.1),.int .i64 r.2.1,.int .i64 r.2.2]:=by
 refine X zJi (J 13 ?_);obtain⟨v3,y,H⟩:=N H;refine Y (k9 y) (I 2 ?_);obtain⟨z,H⟩:=g H;refine Q 15 (cN z) 1 (W O O ?_);obtain⟨v6,h7,H⟩:=N H;refine Y (kK h7) (I 4<|p [19,4,3,2] [] ?_);obtain⟨h8,H⟩:=g H;refine E 19 (cN h8) 8 ?_;obtain⟨F,h,H⟩:=N H;refine Y (zai h) (I 9<|gJ (fun M:Bool=>(QI F D B) M=some r) (fun M=>mk [(2,.one<|.ptr<|.nm 128 0 0),(3,.one<|.ptr<|.nm 192 0 0),(4,.one<|.ptr<|.nm 256 0 0),(7,Z F.1),(8,oB F.2),(28,oB M)] [(128,.vars 2<|JA D),(192,.vars 5<|zfL B),(256,.vars 2 [.zs,.zs])] (lk [])) ?_ ?_)
 ·intro M H;obtain⟨i,H⟩:=zn H;refine E 28 (nt i) 1 (gJ (fun P:Bool=>(QT F D B) P=some r) (fun P=>mk [(2,.one<|.ptr<|.nm 128 0 0),(3,.one<|.ptr<|.nm 192 0 0),(4,.one<|.ptr<|.nm 256 0 0),(7,Z F.1),(8,oB F.2),(49,oB P)] [(128,.vars 2<|JA D),(192,.vars 5<|zfL B),(256,.vars 2 [.zs,.zs])] (lk [])) ?_ ?_)
  ·intro P H;obtain⟨j,H⟩:=zn H;refine E 49 (nt j) 1 (gJ (fun S:Bool=>(QQ D B F) S=some r) (fun S=>mk [(2,.one<|.ptr<|.nm 128 0 0),(3,.one<|.ptr<|.nm 192 0 0),(4,.one<|.ptr<|.nm 256 0 0),(7,Z F.1),(8,oB F.2),(64,oB S)] [(128,.vars 2<|JA D),(192,.vars 5<|zfL B),(256,.vars 2 [.zs,.zs])] (lk [])) ?_ ?_)
   ·intro S H;obtain⟨k,H⟩:=zn H;refine E 64 (nt k) 5 (zj<|d 3 ?_);obtain⟨A,q,H⟩:=N H;refine zY (zCN (zhk q) ?_);refine o (d 5<|u<|I 3<|p [10,9,3,4,7,8] [128]<|J 12<|gJ (fun C:List zN=>(QK A) C=some r) (fun C=>mk [(4,.one<|.ptr<|.nm 256 0 0),(9,.one<|.ptr<|.nm 576 0 0),(10,Z A.2)] [(256,.vars 2 [.zs,.zs]),(320064,.data 3 (List.map zg C) true none),(576,.vars 2 [ah 5056 A.1.Cells,ah 320064 C]),(5056,.data 2 (A.1.Cells.map zh) true none)] (lk [])) ?_ ?_)
    ·intro C H;refine J 1 (zj<|d 3<|u<|I 5 ?_);cases H;exact t
    refine J 5 ?_;obtain⟨T,H⟩|⟨T,H⟩:=aa H
    ·refine E 88 T 6 ?_;obtain⟨s,c,H⟩:=N H;exact zbn O O (bR O) O c (zfG (t:=s) (t':=zN.mk B.Client B.Req A.2) (es:=[.int .i64 B.Client,.int .i64 B.Req,.int .i64 A.2]) K O O O (bR O) (Yv c) O O<|I 1<|l [4,9,10] [704,192]<|zP (zF 5057 320064 O O (nR O) R)<|m [] H)
    refine E 88 T 1 (zj<|d 5 ?_);obtain⟨e,v,H⟩:=N H;exact y3 (zgk 6272 (zs:=[]) (f:=zg) (t:=zN.mk B.Client B.Req A.2) bZ O O) (zdj (ON:=[5057,6272]) (ls:=[]) (G:=[5057,6272]) (E:=[5057,6272]) (MB:=[]) (u:=.one (ah 6336 e)) (bs:=[(6336,.data 3 (e.map zg) true none)]) eC aq (zaj v) (Ec O<|Ec O<|Ec K En) (aX (ap (bR O) lm (qf fun _=>O))<|aA Vp O<|aX (ap bZ O (qf fun _=>O)) aw) O O O av (aj (.one .any) O<|U O<|U O<|aj (.one .any) O<|eT O) (L O<|L O<|hK O<|hK O<|ak (.vars 2 [ah 5056 A.1.Cells,.any]) O O<|L O<|hT O) ar (by simp[ZP,JZ,Zt,QA,jN]) O (fC (nR O) O<|fC (nR O) O fN)<|d 2<|u<|I 1<|l [4,9,10] [704,192]<|zP (zF 6336 320064 O O (nR O) R)<|m [] H)
   refine J 4 ?_;obtain⟨V,H⟩|⟨V,H⟩:=aa H
   ·exact Q 67 (cN V) 7 (l [2,3,4,7,8,64] []<|m [] H)
   exact Q 67 (cN V) 2 (W O O<|qb K (n:=D.Seats.length) lm<|I 4<|l [2,3,4,7,8,64] []<|m [] H)
  refine J 3 ?_;obtain⟨a,H⟩|⟨a,H⟩:=aa H
  ·refine Q 51 a 3 (W O O ?_);obtain⟨a3,w,H⟩:=N H;exact jM O K w (I 8<|l [2,3,4,7,8,49] []<|m [] H)
  exact Q 51 a 12 (l [2,3,4,7,8,49] []<|m [] H)
 refine J 3 ?_;obtain⟨b,H⟩|⟨b,H⟩:=aa H
 ·refine Q 30 b 3 (W O O ?_);obtain⟨a4,x,H⟩:=N H;exact jM O K x (I 8<|l [2,3,4,7,8,28] []<|m [] H)
 exact Q 30 b 12 (l [2,3,4,7,8,28] []<|m [] H)
theorem zez{T:zB}{F:List zA}{r:(zB×List Int)}(H:XO T F=some r):Fn Tryz.prog 268 (lent [.agg (jU T),.sl 5<|F.map zi]) true [.agg (jU r.1),.sl 1<|List.map Zd r.2]:=by
 refine X zNq (J 8<|zj<|d 1 ?_);obtain⟨b,V,H⟩:=N H;refine zY (zCN (xw V) ?_);refine o (d 1<|u<|I 12<|qb K (n:=F.length) lm<|I 3 ?_);obtain⟨W,H⟩:=zn H;refine E 17 (dF W) 3 (gJ (fun B:(List Int×List zD×List zN)=>Xc B=some r) (fun B=>mk [(2,.one<|.ptr<|.nm 128 0 0),(4,.one<|.ptr<|.nm 256 0 0),(6,.one<|ah 320384 B.1)] [(320384,.data 1 (List.map Zd B.1) true none),(320256,.data 2 (List.map zh B.2.1) true none),(320320,.data 3 (List.map zg B.2.2) true none),(128,.vars 2 [ah 320256 B.2.1,ah 320320 B.2.2]),(256,.vars 2 [.zs,.zs])] (lk [])) ?_ ?_)
 ·intro B H;refine J 1 (zj<|d 3<|u<|I 4 ?_);cases H;exact t
 refine J 3 (qb K (n:=F.length) lm<|I 3<|p [22,21,20,6,4,2] []<|J 1<|gL (fun A:(List Int×Int×List zD×List zN)=>mk [(2,.one<|.ptr<|.nm 128 0 0),(4,.one<|.ptr<|.nm 256 0 0),(6,.one<|ah 320576 A.1),(20,.one<|.d<|.sl 5<|F.map zi),(21,Z (F.length:Int)),(22,Z A.2.1)] [(320576,.data 1 (List.map Zd A.1) true none),(320448,.data 2 (List.map zh A.2.2.1) true none),(320512,.data 3 (List.map zg A.2.2.2) true none),(128,.vars 2 [ah 320448 A.2.2.1,ah 320512 A.2.2.2]),(256,.vars 2 [.zs,.zs])] (lk [])) H (au (zaM 320576 1 6 true (eR O)<|nR O)<|au (zF 832 320448 O O (nR O) R)<|au (zF 833 320512 O O (nR O) R)<|zU [] (kR O O<|kR O O<|aC K O (aH af)<|sR O O) (blR O) (f O bZ O O<|f O (bR O) O O<|f O (bR O) O O<|f O (bR O) O (by first|exact rfl|(simp;done)|(simp;exact O)) (bkR O O O)) P) ?_);intro Y A H;refine J 6 ?_;obtain⟨D,H⟩|⟨D,H⟩:=ab H
 ·refine E 23 D 7 ?_;obtain⟨a,G,H⟩:=N H;refine jM O O G (I 6<|zj<|d 2 ?_);obtain⟨C,M,H⟩:=N H;refine zY (zCN (KS M) ?_);refine o (d 6<|u<|I 4<|p [11,10,9,2,4,6,20,21,22] [512]<|J 7 ?_);obtain⟨Q,H⟩:=g H;refine E 34 (dT Q) 1 (zj<|d 2<|u<|I 6 ?_);obtain⟨S,H⟩:=g H;exact Qt (f:=Zd) (xs:=A.1) (ys:=[C.2.1]) (q:=(A.1++([C.2.1])).length) O K (bR O) O (aO (f:=Zd) (t:=C.2.1) (es:=[.int .i64 C.2.1]) bZ O O O) O S (by decide) (by decide) (U O<|U O<|aj (.one .any) O<|U O<|U O<|U O<|U O<|U O<|U O<|U O<|U O<|U O<|aj (.one .any) O<|eT O) (hK O<|hK O<|hK O<|hK O<|hK O<|L O<|hT O) P (I 4<|p [6,2,4,20,21,22] [2432,576,320448,320512]<|J 4<|zP (zF 1856 320448 O O (nR O) R)<|zP (zF 1857 320512 O O (nR O) R)<|m [] H)
 exact E 23 D 5 (zP (zF 320576 320384 O O (nR O) R)<|zP (zF 320448 320256 O O (nR O) R)<|zP (zF 320512 320320 O O (nR O) R)<|m [] H)
theorem kD{A:qk}{B:Int}{r:zB}(H:Ju A B=some r):Fn Tryz.prog 163 (lent [.agg (JL A),.int .i64 B]) true [.agg (jU r)]:=by
 refine X zNj (J 16 ?_);obtain⟨E,C,H⟩:=N H;refine zg3 O kz (n:=(A.Entries.length:Int)) O (aY K) C ?_;obtain⟨F,D,H⟩:=N H;refine zCN (zez D) ?_;refine I 8 (p [5,4] [1104,128]<|J 1<|zj<|d 2<|u<|I 3 ?_);cases H;exact t
theorem zbc{C:zB}{D:Int}{r:(zN×Bool)}(H:xO C D=some r):Fn Tryz.prog 429 (lent [.agg (jU C),.int .i64 D]) true [.agg (zg r.1),.bool r.2]:=by
 refine X zLi (J 11 ?_);obtain⟨M,F,H⟩:=N H;refine Y (k9 F) (I 3 ?_);obtain⟨G,H⟩:=g H;refine E 10 (cN G) 7 ?_;obtain⟨P,L,H⟩:=N H;refine Y (zai L) (I 7<|p [7,6,4,2] []<|J 7 ?_);obtain⟨A,H⟩|⟨A,H⟩:=aa H
 ·refine E 19 (cN A) 8 ?_;obtain⟨Q,B,H⟩:=N H;refine jM O K B (I 6 ?_);cases H;exact t
 refine E 19 (cN A) 10 ?_;cases H;exact t
theorem K4{B:zA}{C:qg}{r:Bool}(H:Jb B C=some r):Fn Tryz.prog 430 (lent [.agg (zi B),.ptr<|qY C]) true [.bool r]:=by
 refine X zHY (J 14 ?_);obtain⟨A,H⟩|⟨A,H⟩:=ab H
 ·refine Q 9 A 9 (p [3] [128]<|J 1 ?_);cases H;exact t
 refine Q 9 A 9 (p [3] [128]<|J 1 ?_);cases H;exact t
theorem QW{A:List zA}{B:qg}{r:Int}(H:jd A B=some r):Fn Tryz.prog 383 (lent [.sl 5 (A.map zi),.fn 430 [.ptr (qY B)]]) true [.int .i64 r]:=by
 refine X zFV (J 5<|gJ (fun C:Unit=>qV C=some r) (fun C=>mk [] [] (lk [])) ?_ ?_)
 ·intro C H;refine J 6 ?_;cases H;exact t
 refine J 3 (qb K (n:=A.length) lm<|I 4<|gL (fun L:Int=>mk [(0,.one<|.d<|.sl 5<|A.map zi),(1,.one<|.fn 430 [.bd (qY B) 0]),(7,Z (A.length:Int)),(8,Z L)] [] (lk [])) H (zU [] (sR O O) az s P) ?_);intro M L H;refine J 6 ?_;obtain⟨D,H⟩|⟨D,H⟩:=ab H
 ·refine E 9 D 16 ?_;obtain⟨S,Q,H⟩:=N H;refine jM O K Q (I 1 ?_);obtain⟨R,F,H⟩:=N H;refine Y (K4 F) (I 2 ?_);obtain⟨G,H⟩:=zn H;exact E 16 (nt G) 8 (l [0,1,7,8] []<|m [] H)
 exact E 9 D 5 (m [] H)
theorem j0{A:List zA}{B:qg}{r:Bool}(H:qz A B=some r):Fn Tryz.prog 338 (lent [.sl 5 (A.map zi),.fn 430 [.ptr (qY B)]]) true [.bool r]:=by
 refine X zFK (J 9 ?_);obtain⟨D,C,H⟩:=N H;refine Y (QW C) (I 5 ?_);cases H;exact t
theorem zex{D:qk}{A:zA}{r:(qk×Bool)}(H:XF D A=some r):Fn Tryz.prog 461 (lent [.agg (JL D),.agg<|zi A]) true [.agg (JL r.1),.bool r.2]:=by
 refine X zMI (J 12 ?_);obtain⟨c,T,H⟩:=N H;refine Y (Qu T) (I 3 ?_);obtain⟨V,H⟩:=g H;refine E 9 (cN V) 4 (zj<|d 1 ?_);obtain⟨C,Z,H⟩:=N H;refine zY (zCN (Zv Z) ?_);refine o (d 2<|u<|I 6 ?_);obtain⟨e,a,H⟩:=N H;refine Y (kK a) (I 2 ?_);obtain⟨F,H⟩:=g H;refine Q 16 (cN F) 2 (W O O<|qb K (n:=D.Entries.length) lm<|I 3 ?_);obtain⟨G,H⟩:=zn H;refine Q 22 (dF G) 1 (W O O ?_);obtain⟨b,M,H⟩:=N H;refine Y (jO M) (I 4<|p [26,6,4,3] [128] ?_);obtain⟨R,H⟩:=zn H;refine E 26 (dF R) 4 (zj<|d 4 ?_);obtain⟨S,H⟩:=g H;refine zY (Qt (f:=zi) (xs:=C.Entries) (ys:=[A]) (q:=(C.Entries++([A])).length) O K (bR O) O (aO (f:=zi) (t:=A) (es:=[.int .i64 A.Client,.int .i64 A.Req,.int .i64 A.Cmd.Kind,.int .i64 A.Cmd.Key,.int .i64 A.Cmd.Value]) bZ O O O) O S (by decide) (by decide) (U O<|U O<|aj (.one .any) O<|eT O) (hK O<|ak (.vars 4 [B C.Base,ah 769 C.Image.Cells,ah 770 C.Image.Seats,.any]) O O<|L O<|hT O) P<|o<|d 2<|u<|I 3<|zj<|d 2<|u<|I 4 ?_);cases H;exact t
theorem Xu{C:ze}{D:zA}{A B:Value}{r:(Bool×ze)}(H:QR C D=some r):Fn Tryz.prog 431 [⟨.ptr<|Qw C (.sl 2<|C.Replica.Log.Image.Cells.map zh) (.sl 3<|C.Replica.Log.Image.Seats.map zg) (.sl 5<|C.Replica.Log.Entries.map zi) (.pin A)<|.pin B,.m<|.ptr [.int .i64 r.2.Replica.Me,.int .i64 r.2.Replica.Of,.int .i64 r.2.Replica.Mode,.int .i64 r.2.Replica.View,.int .i64 r.2.Replica.Normal,.int .i64 r.2.Replica.Commit,.int .i64 r.2.Replica.Log.Base,.sl 2<|List.map zh r.2.Replica.Log.Image.Cells,.sl 3<|List.map zg r.2.Replica.Log.Image.Seats,.sl 5<|List.map zi r.2.Replica.Log.Entries,.pin A,.int .i64 r.2.Replica.Cell,.int .i64 r.2.Replica.Nonce,.pin B]⟩,⟨.agg<|zi D,.b⟩] true [.bool r.1]:=by
 refine hdM zIP (zcS 0 1 63 ?_);refine J 7 (zj<|d 7<|u<|I 11 ?_);obtain⟨F,H⟩:=zn H;refine E 16 (dF F) 4 (zj<|d 2 ?_);obtain⟨L,G,H⟩:=N H;refine zY (zCN (zex G) ?_);refine o (d 5<|u<|I 3<|p [7,6,0] [320,192]<|J 6 ?_);obtain⟨K,H⟩:=g H;refine E 33 K 1 (zj<|d 6<|u<|I 8<|zcG 0 ?_);refine J 1 ?_;cases H;exact zM
theorem K0{A:ze}{B:Int}{C:zA}{r:qg}(H:QF A B C=some r):Fn Tryz.prog 60 (lent [.ptr (Qh A),.int .i64 B,.agg<|zi C]) true [.agg (qY r)]:=by
 refine X f60 (J 34<|p [6] [320]<|J 1 ?_);cases H;exact t
theorem yl{R:ze}{Q:Int}{C:qg}{F M P D:Value}{r:ze}(H:jh R Q C=some r):Fn Tryz.prog 62 [⟨.ptr<|Qw R (.pin F) (.pin M) (.pin P) (.pin D)<|.sl 18<|R.outs.map zR,.m<|.ptr [.int .i64 r.Replica.Me,.int .i64 r.Replica.Of,.int .i64 r.Replica.Mode,.int .i64 r.Replica.View,.int .i64 r.Replica.Normal,.int .i64 r.Replica.Commit,.int .i64 r.Replica.Log.Base,.pin F,.pin M,.pin P,.pin D,.int .i64 r.Replica.Cell,.int .i64 r.Replica.Nonce,.sl 18<|List.map zR r.outs]⟩,⟨.int .i64 Q,.b⟩,⟨.agg<|qY C,.b⟩] true []:=by
 refine hdM m62 (ay<|zcS 0 1 63 ?_);refine gE (J 6<|zj<|d 2 ?_);obtain⟨E,S,H⟩:=N H;refine zY (zCN (Zv S) ?_);refine o (d 2<|u<|I 2<|AW.regp [320,0]<|za7 O<|zV O<|o<|za7 O<|zV O<|o<|zg8 K<|ql K<|o<|za7 O<|zx (m:=13) K O<|o<|zeg K O<|qU (q:=13) (c:=ah 14 R.outs) K (bR O) O O<|o<|za7 O<|zV O<|o<|zeg O O<|yQ (es:=(zeR C (ah 513 E.Image.Cells) (ah 514 E.Image.Seats)<|ah 515 E.Entries).set 13 (B E.Base)) O bZ O<|o<|za7 O<|xl (cs:=[B Q,B C.Kind,B C.From,B C.View,B C.Op,B C.Commit,B C.Normal,B C.Nonce,B C.Client,B C.Req,B C.Answer,B C.Cmd.Kind,B C.Cmd.Key,B C.Cmd.Value,B E.Base,ah 513 E.Image.Cells,ah 514 E.Image.Seats,ah 515 E.Entries]) (qq O<|qq K xi) O<|o<|zkf<|zgN<|Kl (m:=1152) (q:=1) (cs:=[B Q,B C.Kind,B C.From,B C.View,B C.Op,B C.Commit,B C.Normal,B C.Nonce,B C.Client,B C.Req,B C.Answer,B C.Cmd.Kind,B C.Cmd.Key,B C.Cmd.Value,B E.Base,ah 513 E.Image.Cells,ah 514 E.Image.Seats,ah 515 E.Entries]) O (qq K xi) O (List.cons_ne_nil _ _) (by simp) (nR O)<|o<|zks ?_);obtain⟨T,H⟩:=g H;refine zgJ (f:=zR) (xs:=R.outs) (t:=jJ.mk Q (qg.mk C.Kind C.From C.View C.Op C.Commit C.Normal C.Nonce C.Client C.Req C.Answer C.Cmd E)) (q:=(R.outs++[jJ.mk Q (qg.mk C.Kind C.From C.View C.Op C.Commit C.Normal C.Nonce C.Client C.Req C.Answer C.Cmd E)]).length) (ds:=[.int .i64 Q,.int .i64 C.Kind,.int .i64 C.From,.int .i64 C.View,.int .i64 C.Op,.int .i64 C.Commit,.int .i64 C.Normal,.int .i64 C.Nonce,.int .i64 C.Client,.int .i64 C.Req,.int .i64 C.Answer,.int .i64 C.Cmd.Kind,.int .i64 C.Cmd.Key,.int .i64 C.Cmd.Value,.int .i64 E.Base,.sl 2<|E.Image.Cells.map zh,.sl 3<|E.Image.Seats.map zg,.sl 5<|E.Entries.map zi]) (ns:=[513,514,515]) O K (bR O) O bZ O (A (G O)<|A (G O)<|A (G O)<|A (G O)<|A (G O)<|A (G O)<|A (G O)<|A (G O)<|A (G O)<|A (G O)<|A (G O)<|A (G O)<|A (G O)<|A (G O)<|A (G O)<|A (ap (bR O) lm (qf fun _=>O))<|A (ap (bR O) lm (qf fun _=>O))<|A (ap (bR O) lm (qf fun _=>O)) aI) O O O O T (by decide) (U O<|aj (.agg [B Q,B C.Kind,B C.From,B C.View,B C.Op,B C.Commit,B C.Normal,B C.Nonce,B C.Client,B C.Req,B C.Answer,B C.Cmd.Kind,B C.Cmd.Key,B C.Cmd.Value,B E.Base,.any,.any,.any]) O<|aj (.agg<|(zeR C .any .any .any).set 13<|B E.Base) O<|U O<|U O<|U O<|U O<|U O<|U O<|U O<|aj (.agg [B E.Base,.any,.any,.any]) O<|eT O) (ak (.vars 18 [B Q,B C.Kind,B C.From,B C.View,B C.Op,B C.Commit,B C.Normal,B C.Nonce,B C.Client,B C.Req,B C.Answer,B C.Cmd.Kind,B C.Cmd.Key,B C.Cmd.Value,B E.Base,.any,.any,.any]) O O<|ak (.vars 17<|(zeR C .any .any .any).set 13<|B E.Base) O O<|L O<|L O<|L O<|hT O) (eT O) (U O<|U O<|U O<|U O<|aj (.one .any) O<|eT O) (hK O<|hK O<|hK O<|ak (.vars 14<|jr R (.d<|.pin F) (.d<|.pin M) (.d<|.pin P) (.d<|.pin D) .any) O O<|L O<|hT O) (eT O) (zcc O<|ql O<|o<|zjB O<|zx (m:=13) K O<|o<|zcc O<|Xx (es:=jr R (.d<|.pin F) (.d<|.pin M) (.d<|.pin P) (.d<|.pin D) (.sl 14 0<|(R.outs++[jJ.mk Q (qg.mk C.Kind C.From C.View C.Op C.Commit C.Normal C.Nonce C.Client C.Req C.Answer C.Cmd E)]).length)) K O O O (bR O) O<|o<|zkK<|zpG 0 ?_);cases H;exact zMN
theorem yh{K:ze}{L:qg}{C D F A:Value}{r:ze}(H:qW K L=some r):Fn Tryz.prog 59 [⟨.ptr<|Qw K (.pin C) (.pin D) (.pin F) (.pin A)<|.sl 18<|K.outs.map zR,.m<|.ptr [.int .i64 r.Replica.Me,.int .i64 r.Replica.Of,.int .i64 r.Replica.Mode,.int .i64 r.Replica.View,.int .i64 r.Replica.Normal,.int .i64 r.Replica.Commit,.int .i64 r.Replica.Log.Base,.pin C,.pin D,.pin F,.pin A,.int .i64 r.Replica.Cell,.int .i64 r.Replica.Nonce,.sl 18<|List.map zR r.outs]⟩,⟨.agg<|qY L,.b⟩] true []:=by
 refine hdM m59 (ay<|zcS 0 1 63 ?_);refine gE (J 16<|gL (fun G:(Int×Int×Int×Int×Int×Int×Int×Int×Int×Int×List jJ)=>mk [(0,.one<|.ptr<|.nm 0 0 0),(3,.one<|.ptr<|.nm 192 0 0),(9,Z K.Replica.Of),(10,Z G.1)] [(320064,.data 18 (List.map zR G.2.2.2.2.2.2.2.2.2.2) true none),(0,.vars 14 [B G.2.1,B G.2.2.1,B G.2.2.2.1,B G.2.2.2.2.1,B G.2.2.2.2.2.1,B G.2.2.2.2.2.2.1,B G.2.2.2.2.2.2.2.1,.d<|.pin C,.d<|.pin D,.d<|.pin F,.d<|.pin A,B G.2.2.2.2.2.2.2.2.1,B G.2.2.2.2.2.2.2.2.2.1,ah 320064 G.2.2.2.2.2.2.2.2.2.2]),(192,.vars 17<|zeJ L)] (lk [(0,.one<|.ptr<|.nm 0 0 0)])) H (au (zF 14 320064 O O (nR O)<|T O R)<|zU [] (sR O O) (blR O) (f O (bR O) O O<|f O (bR O) O (by first|exact rfl|(simp;done)|(simp;exact O)) (bkR O O O)) (q O P)) ?_);intro S G H;refine J 6 ?_;obtain⟨M,H⟩|⟨M,H⟩:=ab H
 ·refine E 11 M 22 ?_;obtain⟨Q,H⟩|⟨Q,H⟩:=ab H
  ·refine E 19 Q 1 (zj<|d 3<|zGM [22,21,20,0,3,9,10] []<|rmF<|zrG 0 ?_);obtain⟨V,U,H⟩:=N H;refine zrC (yl U) ?_;refine zrS 0 1 63 ?_;exact qD (u<|I 7<|l [0,3,9,10] []<|zP (zF 14 320064 O O (nR O)<|T O R)<|m [] H)
  exact E 19 Q 4 (p [0,3,9,10] []<|J 4<|m [] H)
 refine E 11 M 5 (zpG 0 ?_);cases H;exact zMN
end Go.AW
