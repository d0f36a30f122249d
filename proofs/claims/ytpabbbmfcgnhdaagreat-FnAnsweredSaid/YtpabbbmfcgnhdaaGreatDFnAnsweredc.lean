/- That functions of the program compute what the plain functions say. Conditions: each theorem's own. -/
import Derived.Test.YtpabbbmfcgnhdaaGreatMFnAnswered
import Derived.Test.YtpabbbmfcgnhdaaGreatGFnAnswered
import Derived.Test.YtpabbbmfcgnhdaaGreatYv
import Derived.Test.YtpabbbmfcgnhdaaGreatYx
import Derived.Test.YtpabbbmfcgnhdaaGreatYw
import Derived.Test.YtpabbbmfcgnhdaaGreatYo
import Derived.Test.YtpabbbmfcgnhdaaGreatRc
import Derived.Test.YtpabbbmfcgnhdaaGreatSFnAnswered
import Derived.Test.YtpabbbmfcgnhdaaGreatYt
import Derived.KernelRfl
import Derived.Test.YtpabbbmfcgnhdaaGreatDFnAnswereda
import Derived.Test.YtpabbbmfcgnhdaaGreatDFnAnsweredb
set_option linter.unusedVariables false
set_option linter.unusedSimpArgs false
set_option maxRecDepth 100000
namespace Go.AW
open Go.Proofs
theorem zbT{A:zr}{r:Bool}(H:QU A=some r):Fn Tryz.prog 42 (lent [.agg (yi A)]) true [.bool r]:=by
 refine X f42 (J 10 ?_);obtain⟨v2,v,H⟩:=N H;refine Y (YN v) (I 3 ?_);obtain⟨w,H⟩:=g H;refine E 10 (cN w) 3 (gJ (fun L:Unit=>Yz L=some r) (fun L=>mk [] [] (lk [])) ?_ ?_)
 ·intro L H;refine J 6 ?_;cases H;exact t
 refine J 4 (qb K (n:=A.Replicas.length) lm<|I 4<|gL (fun F:Int=>mk [(1,.one<|.ptr<|.nm 64 0 0),(12,.one<|.d<|.sl 13<|A.Replicas.map zm),(13,Z (A.Replicas.length:Int)),(14,Z F)] [(64,.vars 5<|QL A)] (lk [])) H (zU [] (sR O O) (blR O) (bkR O O O) P) ?_);intro M F H;refine J 6 ?_;obtain⟨R,H⟩|⟨R,H⟩:=ab H
 ·refine E 15 R 3 (gJ (fun B:Unit=>(JR M F) B=some r) (fun B=>mk [(1,.one<|.ptr<|.nm 64 0 0),(12,.one<|.d<|.sl 13<|A.Replicas.map zm),(13,Z (A.Replicas.length:Int)),(14,Z F)] [(64,.vars 5<|QL A)] (lk [])) ?_ ?_)
  ·intro B H;exact J 4 (m [] H)
  refine J 2 (zj<|d 1 ?_);obtain⟨S,T,H⟩:=N H;refine zY (jM O O T<|o<|d 4<|u<|I 7 ?_);obtain⟨C,U,H⟩:=N H;refine zg3 O kz (n:=(A.Replicas.length:Int)) O (aY K) U (qb K (n:=C.length) lm<|I 3<|p [24,23,22,4,1,12,13,14] []<|J 1<|gL (fun G:Int=>mk [(1,.one<|.ptr<|.nm 64 0 0),(4,.one<|.ptr<|.nm 256 0 0),(12,.one<|.d<|.sl 13<|A.Replicas.map zm),(13,Z (A.Replicas.length:Int)),(14,Z F),(22,.one<|.d<|.sl 13<|C.map zm),(23,Z (C.length:Int)),(24,Z G)] [(64,.vars 5<|QL A),(256,.vars 13<|zcf S)] (lk [])) H (zU [] (sR O O) (blR O) (bkR O O O) P) ?_);intro s G H;refine J 6 ?_;obtain⟨D,H⟩|⟨D,H⟩:=ab H
  ·refine E 25 D 6 (zj ?_);obtain⟨x,V,H⟩:=N H;refine zY (jM O O V<|o<|d 3<|u<|I 12<|p [7,6,1,4,12,13,14,22,23,24] []<|J 4 ?_);obtain⟨y,a,H⟩:=N H;refine Y (xZ a) (I 2 ?_);obtain⟨b,H⟩:=g H;refine Q 36 (cN b) 1 (W O O ?_);obtain⟨z,c,H⟩:=N H;refine Y (xZ c) (I 3 ?_);obtain⟨e,H⟩:=g H;refine Q 41 (cN e) 7 ?_;obtain⟨f,H⟩:=zn H;refine Q 48 (dF f) 8 (p [54,7,6,1,4,12,13,14,22,23,24] [] ?_);obtain⟨h,H⟩:=zn H;refine E 54 (dF h) 8 ?_;obtain⟨a2,i,H⟩:=N H;refine Y (kD i) (I 3 ?_);obtain⟨a3,j,H⟩:=N H;refine Y (kD j) ?_;obtain⟨a4,k,H⟩:=N H;refine Y (X7 k) (I 3<|p [64,1,4,12,13,14,22,23,24] [384] ?_);obtain⟨q,H⟩:=g H;exact E 64 (cN q) 8 (l [1,4,12,13,14,22,23,24] []<|m [] H)
  exact E 25 D 6 (l [1,12,13,14] [256]<|m [] H)
 exact E 15 R 5 (m [64] H)
theorem zbK{A:zr}{r:Int}(H:QN A=some r):Fn Tryz.prog 43 (lent [.agg (yi A)]) true [.int .i64 r]:=by
 refine X f43 (J 15 ?_);obtain⟨f,V,H⟩:=N H;refine Y (YN V) (I 3 ?_);obtain⟨a,H⟩:=g H;refine E 8 (cN a) 3 (gJ (fun G:Int=>Yn G=some r) (fun G=>mk [(3,Z G)] [] (lk [])) ?_ ?_)
 ·intro G H;refine J 7 ?_;cases H;exact t
 refine J 4 (qb K (n:=A.Replicas.length) lm<|I 4<|gL (fun C:(Int×Int)=>mk [(1,.one<|.ptr<|.nm 64 0 0),(3,Z C.1),(11,.one<|.d<|.sl 13<|A.Replicas.map zm),(12,Z (A.Replicas.length:Int)),(13,Z C.2)] [(64,.vars 5<|QL A)] (lk [])) H (zU [] (sR O O) (blR O) (bkR O O O) P) ?_);intro L C H;refine J 6 ?_;obtain⟨M,H⟩|⟨M,H⟩:=ab H
 ·refine E 14 M 6 (zj<|d 1 ?_);obtain⟨b,R,H⟩:=N H;refine zY (jM O O R<|o<|d 4<|u<|I 2<|gJ (fun B:Bool=>(Z6 L C) B=some r) (fun B=>mk [(1,.one<|.ptr<|.nm 64 0 0),(3,Z C.1),(4,Z C.2),(11,.one<|.d<|.sl 13<|A.Replicas.map zm),(12,Z (A.Replicas.length:Int)),(13,Z C.2),(34,oB B)] [(64,.vars 5<|QL A)] (lk [])) ?_ ?_)
  ·intro B H;obtain⟨D,H⟩|⟨D,H⟩:=aa H
   ·exact E 34 D 11 (l [1,3,11,12,13] []<|m [] H)
   exact E 34 D 8 (l [1,3,11,12,13] []<|m [] H)
  refine J 2 ?_;obtain⟨c,S,H⟩:=N H;refine Y (xZ S) (I 1 ?_);obtain⟨T,H⟩:=g H;refine Q 20 T 3 ?_;obtain⟨F,H⟩|⟨F,H⟩:=ab H
  ·exact Q 23 F 12 (l [1,3,4,11,12,13,34] [320]<|m [] H)
  refine Q 23 F 5 (W O O ?_);obtain⟨e,U,H⟩:=N H;exact jM O K U (I 6<|l [1,3,4,11,12,13,34] [320]<|m [] H)
 exact E 14 M 5 (m [64] H)
theorem zbF{a1:List Int}{r:Bool}(H:yT a1=some r):Fn Tryz.prog 8 (lent [.sl 1 (a1.map qc)]) true [.bool r]:=by
 refine X f8 (J 9 ?_);obtain⟨v2,h3,H⟩:=N H;refine Y (zhL h3) (I 2 ?_);obtain⟨G,H⟩|⟨G,H⟩:=aa H
 ·refine E 17 G 8 ?_;cases H;exact t
 refine E 17 G 4 (zj ?_);obtain⟨v5,h6,H⟩:=N H;refine zY (Y (zc8 h6)<|o<|d 2<|u<|I 5 ?_);obtain⟨v7,h8,H⟩:=N H;refine Y (zbg h8) (I 10<|zj<|d 3 ?_);obtain⟨v9,L,H⟩:=N H;refine zY (Y (Z9 L)<|o<|d 4<|u<|I 3<|p [6,5,4,3] []<|J 1<|zj<|d 1 ?_);obtain⟨D,M,H⟩:=N H;refine zY (zfE (u:=.agg (QL D)) eC aq (xS M) (Ec K En) (Vc (VD.agg O) Vn) O O<|o<|d 1<|u<|I 3<|zj<|d 2 ?_);obtain⟨ah,R,H⟩:=N H;refine zY (Y (aR (aM (RdI.agg<|yB.cons aP O<|yB.cons aP O yB.nil)<|aM am aU)<|za9 R)<|o<|d 5<|u<|I 9 ?_);obtain⟨S,H⟩:=zn H;refine Q 41 (dF S) 2 (W O O<|qb K (n:=D.Replies.length) lm<|I 3 ?_);obtain⟨T,H⟩:=zn H;refine Q 47 (dF T) 2 (W O O ?_);obtain⟨ai,U,H⟩:=N H;refine jM K eC U (I 7<|p [55,7,5,3] [256] ?_);obtain⟨V,H⟩:=zn H;refine E 55 (dF V) 4 (zj<|d 2 ?_);obtain⟨aj,a,H⟩:=N H;refine zY (Y (Z9 a)<|o<|d 4<|u<|I 4<|zj<|d 1 ?_);obtain⟨b,c,H⟩:=N H;refine zY (zfE (u:=.agg (QL b)) eC aq (xS c) (Ec K En) (Vc (VD.agg O) Vn) O O<|o<|d 1<|u<|I 3<|zj<|d 2 ?_);obtain⟨ak,e,H⟩:=N H;refine zY (Y (Z9 e)<|o<|d 4<|u<|I 3<|p [10,9,7,5,3] []<|J 1<|zj<|d 2 ?_);obtain⟨al,f,H⟩:=N H;refine zY (Y (Z9 f)<|o<|d 4<|u<|I 4<|zj<|d 1 ?_);obtain⟨h,i,H⟩:=N H;refine zY (zfE (u:=.agg (QL h)) eC aq (xS i) (Ec K En) (Vc (VD.agg O) Vn) O O<|o<|d 1<|u<|I 3<|zj<|d 3 ?_);obtain⟨an,j,H⟩:=N H;refine zY (Y (Z9 j)<|o<|d 4<|u<|I 3<|p [12,11,10,9,7,5,3] []<|J 1<|zj<|d 1 ?_);obtain⟨A,k,H⟩:=N H;refine zY (zfE (u:=.agg (QL A)) eC aq (xS k) (Ec K En) (Vc (VD.agg O) Vn) O O<|o<|d 1<|u<|I 3<|zj<|d 2 ?_);obtain⟨ao,l,H⟩:=N H;refine zY (Y (za9 l)<|o<|d 5<|u<|I 3<|p [14,12,11,10,9,3] [832,448,320]<|J 6 ?_);obtain⟨q,H⟩:=zn H;refine Q 95 (dF q) 4 ?_;obtain⟨s,H⟩:=zn H;refine Q 99 (dF s) 4 ?_;obtain⟨v,H⟩:=zn H;refine Q 103 (dF v) 4 ?_;obtain⟨w,H⟩:=zn H;refine Q 107 (dF w) 2 (W O O<|qb K (n:=A.Replies.length) lm<|I 3 ?_);obtain⟨x,H⟩:=zn H;refine Q 113 (dF x) 2 (W O O ?_);obtain⟨ap,y,H⟩:=N H;refine jM K eC y (I 6 ?_);obtain⟨z,H⟩:=zn H;refine Q 122 (dF z) 1 (W O O ?_);obtain⟨ar,a2,H⟩:=N H;refine Y (zdZ a2) (I 4<|p [126,3] [] ?_);obtain⟨a3,H⟩:=zn H;refine E 126 (dF a3) 3 (gJ (fun B:Unit=>(yZ A) B=some r) (fun B=>mk [(3,.one<|.ptr<|.nm 192 0 0)] [(192,.vars 5<|QL A)] (lk [])) ?_ ?_)
 ·intro B H;refine J 3 ?_;obtain⟨au,a4,H⟩:=N H;refine Y (zbT a4) (I 1 ?_);obtain⟨a5,H⟩:=g H;refine Q 158 a5 3 (W O O<|qb K (n:=A.Net.List.length) lm<|I 3 ?_);obtain⟨a6,H⟩:=g H;refine Q 165 (dT a6) 1 (W O O ?_);obtain⟨av,a7,H⟩:=N H;refine Y (zbK a7) (I 5<|p [2] [192]<|J 1 ?_);cases H;exact t
 refine J 6 (gL (fun F:Int=>mk [(3,.one<|.ptr<|.nm 192 0 0),(15,Z F)] [(192,.vars 5<|QL A)] (lk [])) H (zU [] (sR O O) (blR O) (bkR O O O) P) ?_);intro ag F H;refine J 7 ?_;obtain⟨C,H⟩|⟨C,H⟩:=ab H
 ·refine E 128 C 10 ?_;obtain⟨aw,a8,H⟩:=N H;refine jM O K a8 (I 4 ?_);obtain⟨a9,H⟩:=zn H;refine Q 138 (dF a9) 3 (W O O ?_);obtain⟨ax,ac,H⟩:=N H;refine jM O K ac (I 5 ?_);obtain⟨ad,H⟩:=zn H;refine Q 147 (dF ad) 3 (W O O ?_);obtain⟨ay,ae,H⟩:=N H;refine jM O K ae (I 6<|p [155,3,15] [] ?_);obtain⟨af,H⟩:=zn H;exact E 155 (dF af) 9 (m [] H)
 exact E 128 C 5 (m [] H)
end Go.AW
