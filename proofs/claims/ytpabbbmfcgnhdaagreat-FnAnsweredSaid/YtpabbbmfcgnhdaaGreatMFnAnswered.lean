/- Plain functions that say what functions of the program compute. Conditions: none. -/
import Derived.Test.YtpabbbmfcgnhdaaGreatYv
set_option linter.unusedVariables false
set_option linter.unusedSimpArgs false
set_option maxRecDepth 100000
namespace Go.AW
structure zD where
 Key:Int
 Value:Int
deriving DecidableEq
structure zN where
 Client:Int
 Req:Int
 Answer:Int
deriving DecidableEq
structure zB where
 Cells:(List zD)
 Seats:(List zN)
deriving DecidableEq
structure qX where
 Kind:Int
 Key:Int
 Value:Int
deriving DecidableEq
structure zA where
 Client:Int
 Req:Int
 Cmd:qX
deriving DecidableEq
structure qk where
 Base:Int
 Image:zB
 Entries:(List zA)
deriving DecidableEq
structure qh where
 Kind:Int
 From:Int
 View:Int
 Normal:Int
 Op:Int
 Commit:Int
 Log:qk
deriving DecidableEq
structure zb where
 Me:Int
 Of:Int
 Mode:Int
 View:Int
 Normal:Int
 Commit:Int
 Log:qk
 Votes:(List qh)
 Cell:Int
 Nonce:Int
deriving DecidableEq
structure qg where
 Kind:Int
 From:Int
 View:Int
 Op:Int
 Commit:Int
 Normal:Int
 Nonce:Int
 Client:Int
 Req:Int
 Answer:Int
 Cmd:qX
 Log:qk
deriving DecidableEq
structure jJ where
 To:Int
 Msg:qg
deriving DecidableEq
structure ze where
 Replica:zb
 outs:(List jJ)
deriving DecidableEq
abbrev qc(x:Int):List D:=[.int .u8 x]
structure z5 where
 Id:Int
 To:Int
 Bytes:ByteArray
deriving DecidableEq
structure Yk where
 Next:Int
 List:(List z5)
deriving DecidableEq
structure zr where
 Of:Int
 Replicas:(List zb)
 Net:Yk
 Replies:(List zN)
deriving DecidableEq
abbrev zh(x:zD):List D:=[.int .i64 x.Key,.int .i64 x.Value]
abbrev zg(x:zN):List D:=[.int .i64 x.Client,.int .i64 x.Req,.int .i64 x.Answer]
abbrev zi(x:zA):List D:=[.int .i64 x.Client,.int .i64 x.Req,.int .i64 x.Cmd.Kind,.int .i64 x.Cmd.Key,.int .i64 x.Cmd.Value]
abbrev zu(x:qh):List D:=[.int .i64 x.Kind,.int .i64 x.From,.int .i64 x.View,.int .i64 x.Normal,.int .i64 x.Op,.int .i64 x.Commit,.int .i64 x.Log.Base,.sl 2<|List.map zh x.Log.Image.Cells,.sl 3<|List.map zg x.Log.Image.Seats,.sl 5<|List.map zi x.Log.Entries]
abbrev zm(x:zb):List D:=[.int .i64 x.Me,.int .i64 x.Of,.int .i64 x.Mode,.int .i64 x.View,.int .i64 x.Normal,.int .i64 x.Commit,.int .i64 x.Log.Base,.sl 2<|List.map zh x.Log.Image.Cells,.sl 3<|List.map zg x.Log.Image.Seats,.sl 5<|List.map zi x.Log.Entries,.sl 10<|List.map zu x.Votes,.int .i64 x.Cell,.int .i64 x.Nonce]
abbrev JL(x:qk):List D:=[.int .i64 x.Base,.sl 2<|List.map zh x.Image.Cells,.sl 3<|List.map zg x.Image.Seats,.sl 5<|List.map zi x.Entries]
abbrev jU(x:zB):List D:=[.sl 2 (List.map zh x.Cells),.sl 3<|List.map zg x.Seats]
abbrev KM(x:qX):List D:=[.int .i64 x.Kind,.int .i64 x.Key,.int .i64 x.Value]
abbrev zS(x:z5):List D:=[.int .i64 x.Id,.int .i64 x.To,.str x.Bytes]
abbrev yi(x:zr):List D:=[.int .i64 x.Of,.sl 13<|List.map zm x.Replicas,.int .i64 x.Net.Next,.sl 3<|List.map zS x.Net.List,.sl 3<|List.map zg x.Replies]
structure TGo where
 Kind:Int
 At:Int
 To:Int
 Client:Int
 Req:Int
 Cmd:qX
deriving DecidableEq
abbrev ziu(x:TGo):List D:=[.int .i64 x.Kind,.int .i64 x.At,.int .i64 x.To,.int .i64 x.Client,.int .i64 x.Req,.int .i64 x.Cmd.Kind,.int .i64 x.Cmd.Key,.int .i64 x.Cmd.Value]
abbrev zam(x:Yk):List D:=[.int .i64 x.Next,.sl 3<|List.map zS x.List]
abbrev zeW(x:List Int):List D:=[.sl 1 (List.map qc x)]
abbrev Zd(x:Int):List D:=[.int .i64 x]
abbrev xq(x:List Int):List D:=[.sl 1 (List.map Zd x)]
abbrev qY(x:qg):List D:=[.int .i64 x.Kind,.int .i64 x.From,.int .i64 x.View,.int .i64 x.Op,.int .i64 x.Commit,.int .i64 x.Normal,.int .i64 x.Nonce,.int .i64 x.Client,.int .i64 x.Req,.int .i64 x.Answer,.int .i64 x.Cmd.Kind,.int .i64 x.Cmd.Key,.int .i64 x.Cmd.Value,.int .i64 x.Log.Base,.sl 2<|List.map zh x.Log.Image.Cells,.sl 3<|List.map zg x.Log.Image.Seats,.sl 5<|List.map zi x.Log.Entries]
abbrev zR(x:jJ):List D:=[.int .i64 x.To,.int .i64 x.Msg.Kind,.int .i64 x.Msg.From,.int .i64 x.Msg.View,.int .i64 x.Msg.Op,.int .i64 x.Msg.Commit,.int .i64 x.Msg.Normal,.int .i64 x.Msg.Nonce,.int .i64 x.Msg.Client,.int .i64 x.Msg.Req,.int .i64 x.Msg.Answer,.int .i64 x.Msg.Cmd.Kind,.int .i64 x.Msg.Cmd.Key,.int .i64 x.Msg.Cmd.Value,.int .i64 x.Msg.Log.Base,.sl 2<|List.map zh x.Msg.Log.Image.Cells,.sl 3<|List.map zg x.Msg.Log.Image.Seats,.sl 5<|List.map zi x.Msg.Log.Entries]
abbrev Qh(x:ze):List D:=[.int .i64 x.Replica.Me,.int .i64 x.Replica.Of,.int .i64 x.Replica.Mode,.int .i64 x.Replica.View,.int .i64 x.Replica.Normal,.int .i64 x.Replica.Commit,.int .i64 x.Replica.Log.Base,.sl 2<|List.map zh x.Replica.Log.Image.Cells,.sl 3<|List.map zg x.Replica.Log.Image.Seats,.sl 5<|List.map zi x.Replica.Log.Entries,.sl 10<|List.map zu x.Replica.Votes,.int .i64 x.Replica.Cell,.int .i64 x.Replica.Nonce,.sl 18<|List.map zR x.outs]
abbrev jr(x:ze)(c7 c8 c9 c10 c13:C):List C:=[.d (.int .i64 x.Replica.Me),.d<|.int .i64 x.Replica.Of,.d<|.int .i64 x.Replica.Mode,.d<|.int .i64 x.Replica.View,.d<|.int .i64 x.Replica.Normal,.d<|.int .i64 x.Replica.Commit,.d<|.int .i64 x.Replica.Log.Base,c7,c8,c9,c10,.d<|.int .i64 x.Replica.Cell,.d<|.int .i64 x.Replica.Nonce,c13]
abbrev Qw(x:ze)(c7 c8 c9 c10 c13:D):List D:=[.int .i64 x.Replica.Me,.int .i64 x.Replica.Of,.int .i64 x.Replica.Mode,.int .i64 x.Replica.View,.int .i64 x.Replica.Normal,.int .i64 x.Replica.Commit,.int .i64 x.Replica.Log.Base,c7,c8,c9,c10,.int .i64 x.Replica.Cell,.int .i64 x.Replica.Nonce,c13]
abbrev jn(x:zb)(c7 c8 c9 c10:C):List C:=[.d (.int .i64 x.Me),.d<|.int .i64 x.Of,.d<|.int .i64 x.Mode,.d<|.int .i64 x.View,.d<|.int .i64 x.Normal,.d<|.int .i64 x.Commit,.d<|.int .i64 x.Log.Base,c7,c8,c9,c10,.d<|.int .i64 x.Cell,.d<|.int .i64 x.Nonce]
abbrev zeR(x:qg)(c14 c15 c16:C):List C:=[.d (.int .i64 x.Kind),.d<|.int .i64 x.From,.d<|.int .i64 x.View,.d<|.int .i64 x.Op,.d<|.int .i64 x.Commit,.d<|.int .i64 x.Normal,.d<|.int .i64 x.Nonce,.d<|.int .i64 x.Client,.d<|.int .i64 x.Req,.d<|.int .i64 x.Answer,.d<|.int .i64 x.Cmd.Kind,.d<|.int .i64 x.Cmd.Key,.d<|.int .i64 x.Cmd.Value,.d<|.int .i64 x.Log.Base,c14,c15,c16]
abbrev XL(x:qh)(c7 c8 c9:C):List C:=[.d (.int .i64 x.Kind),.d<|.int .i64 x.From,.d<|.int .i64 x.View,.d<|.int .i64 x.Normal,.d<|.int .i64 x.Op,.d<|.int .i64 x.Commit,.d<|.int .i64 x.Log.Base,c7,c8,c9]
def Jg(a:List Int):Option Bool:=
 some (decide (1048576 < (a.length:Int)))
@[reducible] def xV (a:Int):Option Bool:=
 if a=1 then none else if a=3 then some true else none
@[reducible] def qi (a:Int) (s:Int) (t:Int):Option Bool:=
 if s≤a then some (decide (a≤t)) else none
@[reducible] def zy (a:Int):Option Bool:=
 (qi a 0 1000000000).bind fun d=>(some d)
@[reducible] def Qr (a:Int):Option Bool:=
 (qi a 1 1000000000).bind fun d=>(some d)
@[reducible] def jK (a:Int):Option Bool:=
 (qi a (-1) 1000000000).bind fun d=>(some d)
@[reducible] def ki (a:zB) (w:Unit):Option Bool:=
 if (a.Cells.length:Int)≤40 then some (decide ((a.Seats.length:Int)≤10)) else none
@[reducible] def KV (a:zB) (h:(Unit→Option Bool)) (i:(Int→Option Bool)) (g:Int):Option Bool:=
 if g < (a.Seats.length:Int) then (idx a.Seats g).bind fun c=>((zy c.Client).bind fun j=>(if j=true then (Qr c.Req).bind fun k=>(if k=true then (jK c.Answer).bind fun l=>(if l=true then if 0 < g then none else i (IntKind.wrap .i64 (g+1)) else none) else none) else none)) else h ()
@[reducible] def kj (a:zB) (r:Unit):Option Bool:=
 iter (KV a<|ki a) FU 0
@[reducible] def XU (a:zB) (m:(Unit→Option Bool)) (e:(Int→Option Bool)) (b:Int):Option Bool:=
 if b < (a.Cells.length:Int) then (idx a.Cells b).bind fun f=>((zy f.Key).bind fun n=>(if n=true then (zy f.Value).bind fun o=>(if o=true then if 0 < b then none else e (IntKind.wrap .i64 (b+1)) else none) else none)) else m ()
@[reducible] def yD (a:zB):Option Bool:=
 iter (XU a<|kj a) FU 0
@[reducible] def JS (a:qX) (u:Bool):Option Bool:=
 if u=true then (zy a.Key).bind fun p=>(if p=true then (zy a.Value).bind fun q=>(some q) else none) else none
@[reducible] def JV (a:qX) (r:Bool):Option Bool:=
 if r=true then (zy a.Key).bind fun v=>(if v=true then some (decide (a.Value=0)) else none) else if a.Kind=2 then (JS a) true else (JS a) (decide (a.Kind=3))
def yA(a:qX):Option Bool:=
 if a.Kind=1 then (JV a) true else (JV a) (decide (a.Kind=4))
def qw(a:zA):Option Bool:=
 (zy a.Client).bind fun d=>(if d=true then (Qr a.Req).bind fun n=>(if n=true then (yA a.Cmd).bind fun k=>(some k) else none) else none)
@[reducible] def kS (a:zA):Option Bool:=
 (qw a).bind fun d=>(some (!d))
@[reducible] def jR (Z:Unit):Option Int:=
 some (-1)
@[reducible] def Zu (a:List zA) (q:(Unit→Option Int)) (r:(Int→Option Int)) (s:Int):Option Int:=
 if s < (a.length:Int) then (idx a s).bind fun o=>((kS o).bind fun g=>(if g=true then none else r (IntKind.wrap .i64 (s+1)))) else q ()
@[reducible] def jY (a:List zA):Option Int:=
 iter (Zu a jR) FU 0
@[reducible] def jt (a:List zA):Option Bool:=
 (jY a).bind fun d=>(some<|decide (0≤d))
@[reducible] def qj (a:qk):Option Bool:=
 (zy a.Base).bind fun d=>(if d=true then (yD a.Image).bind fun n=>(if n=true then if (a.Entries.length:Int)≤60 then (jt a.Entries).bind fun g=>(if g=true then none else (zy<|IntKind.wrap .i64 (a.Base+(a.Entries.length:Int))).bind fun t=>some t) else none else none) else none)
@[reducible] def jj (a:qk):Option Int:=
 some (IntKind.wrap .i64 (a.Base+(a.Entries.length:Int)))
@[reducible] def yu (a:qk) (b:Int):Option Bool:=
 (qj a).bind fun i=>(if i=true then (jj a).bind fun u=>((qi b a.Base u).bind fun k=>some k) else none)
@[reducible] def XD (a:qh) (b:Int):Option Bool:=
 if a.Kind=3 then (qi a.From 0<|IntKind.wrap .i64 (b - 1)).bind fun v=>(if v=true then (zy a.View).bind fun o=>(if o=true then (zy a.Normal).bind fun e=>(if e=true then (zy a.Op).bind fun w=>(if w=true then (yu a.Log a.Commit).bind fun x=>(some x) else none) else none) else none) else none) else if a.Kind=5 then (qi a.From 0<|IntKind.wrap .i64 (b - 1)).bind fun y=>(if y=true then (zy a.View).bind fun z=>(if z=true then (zy a.Normal).bind fun A=>(if A=true then (zy a.Op).bind fun B=>(if B=true then (yu a.Log a.Commit).bind fun C=>(some C) else none) else none) else none) else none) else if a.Kind=6 then (qi a.From 0<|IntKind.wrap .i64 (b - 1)).bind fun D=>(if D=true then (zy a.View).bind fun l=>(if l=true then (zy a.Normal).bind fun E=>(if E=true then (zy a.Op).bind fun F=>(if F=true then (yu a.Log a.Commit).bind fun G=>(some G) else none) else none) else none) else none) else if a.Kind=9 then (qi a.From 0<|IntKind.wrap .i64 (b - 1)).bind fun I=>(if I=true then (zy a.View).bind fun J=>(if J=true then (zy a.Normal).bind fun K=>(if K=true then (zy a.Op).bind fun L=>(if L=true then (yu a.Log a.Commit).bind fun M=>(some M) else none) else none) else none) else none) else none
@[reducible] def Yt (a:qh) (b:zb):Option Bool:=
 (XD a b.Of).bind fun i=>(some (!i))
@[reducible] def jq (t3:Unit):Option Int:=
 some (-1)
@[reducible] def yU (a:List qh) (b:zb) (N:(Unit→Option Int)) (P:(Int→Option Int)) (p:Int):Option Int:=
 if p < (a.length:Int) then (idx a p).bind fun k=>((Yt k b).bind fun e=>(if e=true then some p else P (IntKind.wrap .i64 (p+1)))) else N ()
@[reducible] def jz (a:List qh) (b:zb):Option Int:=
 iter (yU a b jq) FU 0
@[reducible] def qZ (a:List qh) (b:zb):Option Bool:=
 (jz a b).bind fun i=>(some<|decide (0≤i))
@[reducible] def yH (X:Unit):Option Bool:=
 some true
@[reducible] def ZN (a:List zD) (b:List zD) (f:(Unit→Option Bool)) (j:(Int→Option Bool)) (h:Int):Option Bool:=
 if h < (a.length:Int) then (idx a h).bind fun g=>((idx b h).bind fun c=>(if (decide (g.Key=c.Key)&&(decide (g.Value=c.Value)&&true))=true then j (IntKind.wrap .i64 (h+1)) else none)) else f ()
@[reducible] def jx (a:List zD) (b:List zD):Option Bool:=
 if ¬(a.length:Int)=(b.length:Int) then none else iter (ZN a b yH) FU 0
@[reducible] def Q9 (X:Unit):Option Bool:=
 some true
@[reducible] def xY (a:List zN) (b:List zN) (f:(Unit→Option Bool)) (j:(Int→Option Bool)) (h:Int):Option Bool:=
 if h < (a.length:Int) then (idx a h).bind fun g=>((idx b h).bind fun c=>(if (decide (g.Client=c.Client)&&(decide (g.Req=c.Req)&&(decide (g.Answer=c.Answer)&&true)))=true then j (IntKind.wrap .i64 (h+1)) else none)) else f ()
@[reducible] def JJ (a:List zN) (b:List zN):Option Bool:=
 if ¬(a.length:Int)=(b.length:Int) then none else iter (xY a b Q9) FU 0
@[reducible] def Jw (a:zB) (b:zB):Option Bool:=
 (jx a.Cells b.Cells).bind fun i=>(if i=true then (JJ a.Seats b.Seats).bind fun u=>(some u) else none)
@[reducible] def QE (X:Unit):Option Bool:=
 some true
@[reducible] def xf (a:List zA) (f:(Unit→Option Bool)) (j:(Unit→Option Bool)) (h:Unit):Option Bool:=
 if 0 < (a.length:Int) then none else f ()
@[reducible] def Q6 (a:List zA) (b:List zA):Option Bool:=
 if ¬(a.length:Int)=(b.length:Int) then none else iter (xf a QE) FU ()
@[reducible] def Xd (a:qk) (b:qk):Option Bool:=
 if a.Base=b.Base then (Jw a.Image b.Image).bind fun v=>(if v=true then (Q6 a.Entries b.Entries).bind fun o=>(some o) else none) else none
@[reducible] def JC (a:qk):Option Bool:=
 (Xd a<|qk.mk 0 (zB.mk ([]:List zD) ([]:List zN)) ([]:List zA)).bind fun d=>(some d)
@[reducible] def Qk (a:zb) (Q:Bool):Option Bool:=
 if Q=true then if a.View=0 then if a.Normal=0 then if a.Commit=0 then (JC a.Log).bind fun l=>(if l=true then if a.Mode=3 then some true else some (decide ((a.Votes.length:Int)=0)) else none) else none else none else none else none
@[reducible] def qN (a:zb):Option Bool:=
 (xV a.Of).bind fun d=>(if d=true then (qi a.Me 0<|IntKind.wrap .i64 (a.Of - 1)).bind fun n=>(if n=true then (zy a.View).bind fun k=>(if k=true then (zy a.Normal).bind fun c=>(if c=true then (zy a.Cell).bind fun R=>(if R=true then (zy a.Nonce).bind fun S=>(if S=true then (yu a.Log a.Commit).bind fun T=>(if T=true then if 20 < (a.Votes.length:Int) then none else (qZ a.Votes a).bind fun U=>(if U=true then none else if a.Mode=1 then if a.View=a.Normal then some (decide (a.View=a.Cell)) else none else if a.Mode=2 then if a.Normal≤a.View then some (decide (a.View=a.Cell)) else none else if a.Mode=0 then (Qk a) true else (Qk a) (decide (a.Mode=3))) else none) else none) else none) else none) else none) else none) else none)
@[reducible] def Y5 (a:Int) (b:Int):Option zb:=
 (qN<|zb.mk a b 1 0 0 0 (qk.mk 0 (zB.mk ([]:List zD) ([]:List zN)) ([]:List zA)) ([]:List qh) 0 0).bind fun i=>(if i=true then some (zb.mk a b 1 0 0 0 (qk.mk 0 (zB.mk ([]:List zD) ([]:List zN)) ([]:List zA)) ([]:List qh) 0 0) else none)
@[reducible] def xD (a:Int) (Y:List zb):Option zr:=
 some (zr.mk a Y (Yk.mk 0 ([]:List z5)) ([]:List zN))
@[reducible] def X9 (a:Int) (V:(List zb→Option zr)) (W:((Int×List zb)→Option zr)) (m:Int×List zb):Option zr:=
 if m.1 < a then (Y5 m.1 a).bind fun e=>(if (m.2++[e]).length≤2147483648 then W (IntKind.wrap .i64 (m.1+1),m.2++[e]) else none) else V m.2
@[reducible] def J7 (a:Int):Option zr:=
 (xV a).bind fun d=>(if d=true then iter (X9 a<|xD a) FU (0,([]:List zb)) else none)
def xM(a:Int):Option (Int×Int):=
 some (0,a)
def xN(cb1:List Int)(d:Int→Option (Int×Int))(f:(Int×Int)→Option (Int×Int))(b:Int×Int):Option (Int×Int):=
 if b.2 < (cb1.length:Int) then if b.2 < 4000 then (idx cb1 b.2).bind fun h=>(f (IntKind.wrap .i64 (BitVec.ofInt (IntKind.bits .i64) (IntKind.wrap .i64 ((IntKind.wrap .i64 ((IntKind.wrap .i64 (b.1 * 131))+(IntKind.wrap .i64 h)))+7))&&& BitVec.ofInt (IntKind.bits .i64) 1073741823).toNat,IntKind.wrap .i64 (b.2+1))) else d b.1 else d b.1
@[reducible] def Y7 (cb1:List Int):Option (Int×Int):=
 iter (xN cb1 xM) FU (IntKind.wrap .i64 (97097+(cb1.length:Int)),0)
@[reducible] def J0 (cb1:List Int) (a:Int×Int):Option (Int×(Int×Int)):=
 if a.1 < (cb1.length:Int) then (idx cb1 a.1).bind fun e=>(some (IntKind.wrap .i64 (BitVec.ofInt (IntKind.bits .i64) (IntKind.wrap .i64 ((IntKind.wrap .i64 (BitVec.ofInt (IntKind.bits .i64) (IntKind.wrap .i64 (BitVec.ofInt (IntKind.bits .i64) (Int.fdiv (IntKind.wrap .i64 ((IntKind.wrap .i64 (a.2 * 6364136223846793005))+1442695040888963407))<|2 ^ (min (Int.toNat 33)<|IntKind.bits .i64)) ^^^ BitVec.ofInt (IntKind.bits .i64) (Int.fdiv (IntKind.wrap .i64 ((IntKind.wrap .i64 (a.2 * 6364136223846793005))+1442695040888963407))<|2 ^ (min (Int.toNat 45)<|IntKind.bits .i64))).toNat)&&& BitVec.ofInt (IntKind.bits .i64) 255).toNat)+(IntKind.wrap .i64 e)))&&& BitVec.ofInt (IntKind.bits .i64) 255).toNat,(IntKind.wrap .i64 (a.1+1),IntKind.wrap .i64 ((IntKind.wrap .i64 (a.2 * 6364136223846793005))+1442695040888963407)))) else some (IntKind.wrap .i64 (BitVec.ofInt (IntKind.bits .i64) (IntKind.wrap .i64 (BitVec.ofInt (IntKind.bits .i64) (Int.fdiv (IntKind.wrap .i64 ((IntKind.wrap .i64 (a.2 * 6364136223846793005))+1442695040888963407))<|2 ^ (min (Int.toNat 33)<|IntKind.bits .i64)) ^^^ BitVec.ofInt (IntKind.bits .i64) (Int.fdiv (IntKind.wrap .i64 ((IntKind.wrap .i64 (a.2 * 6364136223846793005))+1442695040888963407))<|2 ^ (min (Int.toNat 45)<|IntKind.bits .i64))).toNat)&&& BitVec.ofInt (IntKind.bits .i64) 255).toNat,(a.1,IntKind.wrap .i64 ((IntKind.wrap .i64 (a.2 * 6364136223846793005))+1442695040888963407)))
@[reducible] def j7 (cb1:List Int) (a:(Int×Int)) (c:Int):Option (Int×(Int×Int)):=
 if c≤0 then none else if c≤256 then (J0 cb1 a).bind fun g=>(if ¬c=0 then some (Int.tmod g.1 c,g.2) else none) else none
@[reducible] def J1 (cb1:List Int) (a:(Int×Int)) (c:Int):Option (Bool×(Int×Int)):=
 (j7 cb1 a c).bind fun e=>(some (decide (e.1=0),e.2))
def jB(cb1:List Int)(k:Int×(Int×Int))(e:Int×(Int×Int))(L:Bool):Option (qX×(Int×Int)):=
 if L=true then (j7 cb1 k.2 50).bind fun b=>((J1 cb1 b.2 20).bind fun f=>(if f.1=true then (j7 cb1 f.2 3).bind fun g=>(some (qX.mk (IntKind.wrap .i64 (1+e.1)) k.1<|IntKind.wrap .i64 (1000000000 - g.1),g.2)) else some (qX.mk (IntKind.wrap .i64 (1+e.1)) k.1 b.1,f.2))) else some (qX.mk (IntKind.wrap .i64 (1+e.1)) k.1 0,k.2)
@[reducible] def Zi (cb1:List Int) (c:Int×Int):Option (qX×(Int×Int)):=
 (j7 cb1 c 4).bind fun e=>((j7 cb1 e.2 6).bind fun k=>(if (IntKind.wrap .i64 (1+e.1))=2 then (jB cb1 k e) true else (jB cb1 k e) (decide ((IntKind.wrap .i64 (1+e.1))=3))))
@[reducible] def jS (cb1:List Int):Option (qX×qX):=
 (Y7 cb1).bind fun d=>((Zi cb1 d).bind fun i=>(Zi cb1 i.2).bind fun x=>some (i.1,x.1))
@[reducible] def kp (a:Int) (c:ByteArray):Option Bool:=
 (qi a 0 4).bind fun e=>(if e=true then some (decide ((c.size:Int)≤4100)) else none)
@[reducible] def kN (a:z5) (c:z5):Option Bool:=
 some (decide (a.Id=c.Id))
@[reducible] def jE (M:Unit):Option Int:=
 some (-1)
@[reducible] def Ze (a:List z5) (c:z5) (r:(Unit→Option Int)) (s:(Int→Option Int)) (t:Int):Option Int:=
 if t < (a.length:Int) then (idx a t).bind fun u=>((kN u c).bind fun b=>(if b=true then none else s (IntKind.wrap .i64 (t+1)))) else r ()
@[reducible] def jQ (a:List z5) (c:z5):Option Int:=
 iter (Ze a c jE) FU 0
@[reducible] def jp (a:List z5) (c:z5):Option Bool:=
 (jQ a c).bind fun e=>(some<|decide (0≤e))
@[reducible] def XA (a:Yk) (q:Unit):Option Bool:=
 (zy a.Next).bind fun i=>(if i=true then some (decide ((a.List.length:Int)≤60)) else none)
@[reducible] def za5 (a:Yk) (l:(Unit→Option Bool)) (D:(Int→Option Bool)) (C:Int):Option Bool:=
 if C < (a.List.length:Int) then (idx a.List C).bind fun b=>((kp b.To b.Bytes).bind fun f=>(if f=true then (qi b.Id 0<|IntKind.wrap .i64 (a.Next - 1)).bind fun g=>(if g=true then (cut a.List 0 C).bind fun E=>((jp E b).bind fun m=>(if m=true then none else D (IntKind.wrap .i64 (C+1)))) else none) else none)) else l ()
@[reducible] def kF (a:Yk):Option Bool:=
 iter (za5 a<|XA a) FU 0
@[reducible] def xn (a:z5) (c:zr):Option Bool:=
 some (decide (c.Of≤a.To))
@[reducible] def jo (M:Unit):Option Int:=
 some (-1)
@[reducible] def yP (a:List z5) (c:zr) (r:(Unit→Option Int)) (s:(Int→Option Int)) (t:Int):Option Int:=
 if t < (a.length:Int) then (idx a t).bind fun u=>((xn u c).bind fun b=>(if b=true then none else s (IntKind.wrap .i64 (t+1)))) else r ()
@[reducible] def jv (a:List z5) (c:zr):Option Int:=
 iter (yP a c jo) FU 0
@[reducible] def jc (a:List z5) (c:zr):Option Bool:=
 (jv a c).bind fun e=>(some<|decide (0≤e))
@[reducible] def xz (a:zN):Option Bool:=
 (zy a.Client).bind fun d=>(if d=true then (Qr a.Req).bind fun k=>(if k=true then (jK a.Answer).bind fun u=>(some (!u)) else none) else none)
@[reducible] def jy (q:Unit):Option Int:=
 some (-1)
@[reducible] def y5 (a:List zN) (l:(Unit→Option Int)) (v:(Int→Option Int)) (n:Int):Option Int:=
 if n < (a.length:Int) then (idx a n).bind fun h=>((xz h).bind fun y=>(if y=true then none else v (IntKind.wrap .i64 (n+1)))) else l ()
@[reducible] def jG (a:List zN):Option Int:=
 iter (y5 a jy) FU 0
@[reducible] def ji (a:List zN):Option Bool:=
 (jG a).bind fun d=>(some<|decide (0≤d))
@[reducible] def xt (a:zr) (N:Unit):Option Bool:=
 (jc a.Net.List a).bind fun f=>(if f=true then none else (ji a.Replies).bind fun g=>some (!g))
@[reducible] def X8 (a:zr) (A:(Unit→Option Bool)) (B:(Int→Option Bool)) (o:Int):Option Bool:=
 if o < (a.Replicas.length:Int) then (idx a.Replicas o).bind fun m=>((qN m).bind fun F=>(if F=true then if ¬m.Me=o then none else if ¬m.Of=a.Of then none else B (IntKind.wrap .i64 (o+1)) else none)) else A ()
@[reducible] def Qe (a:zr):Option Bool:=
 (xV a.Of).bind fun d=>(if d=true then if ¬(a.Replicas.length:Int)=a.Of then none else (kF a.Net).bind fun x=>(if x=true then if 200 < (a.Replies.length:Int) then none else iter (X8 a<|xt a) FU 0 else none) else none)
@[reducible] def zar (a:TGo):Option Bool:=
 (qi a.Kind 1 10).bind fun d=>(if d=true then (zy a.At).bind fun k=>(if k=true then if a.Kind=1 then (zy a.Client).bind fun y=>(if y=true then (Qr a.Req).bind fun f=>(if f=true then (yA a.Cmd).bind fun g=>(if g=true then some (decide (a.To=0)) else none) else none) else none) else if ¬a.Client=0 then none else if ¬a.Req=0 then none else if (decide (a.Cmd.Kind=0)&&(decide (a.Cmd.Key=0)&&(decide (a.Cmd.Value=0)&&true)))=true then if a.To=0 then some true else none else none else none) else none)
@[reducible] def j4 (a:List z5) (q:Unit):Option (List z5):=
 if a.length≤2147483648 then some a else none
@[reducible] def QG (a:List z5):Option (List z5):=
 if a.length=0 then (j4 a) () else (j4 a) ()
@[reducible] def Jo (a:Yk):Option Yk:=
 (QG a.List).bind fun d=>(some<|Yk.mk a.Next d)
@[reducible] def yg (a:List zN) (q:Unit):Option (List zN):=
 if a.length≤2147483648 then some a else none
@[reducible] def Jj (a:List zN):Option (List zN):=
 if a.length=0 then (yg a) () else (yg a) ()
@[reducible] def qa (a:List zD) (q:Unit):Option (List zD):=
 if a.length≤2147483648 then some a else none
@[reducible] def z6 (a:List zD):Option (List zD):=
 if a.length=0 then (qa a) () else (qa a) ()
@[reducible] def jW (a:List zN) (q:Unit):Option (List zN):=
 if a.length≤2147483648 then some a else none
@[reducible] def Z5 (a:List zN):Option (List zN):=
 if a.length=0 then (jW a) () else (jW a) ()
@[reducible] def yt (a:zB):Option zB:=
 (z6 a.Cells).bind fun d=>((Z5 a.Seats).bind fun i=>some (zB.mk d i))
@[reducible] def yf (a:List zA) (q:Unit):Option (List zA):=
 if a.length≤2147483648 then some a else none
@[reducible] def Jk (a:List zA):Option (List zA):=
 if a.length=0 then (yf a) () else (yf a) ()
@[reducible] def j3 (a:qk):Option qk:=
 (yt a.Image).bind fun d=>((Jk a.Entries).bind fun i=>some (qk.mk a.Base d i))
@[reducible] def YZ (q:List qh):Option (List qh):=
 some q
@[reducible] def Xv (a:List qh) (l:(List qh→Option (List qh))) (v:((List qh×Int)→Option (List qh))) (n:List qh×Int):Option (List qh):=
 if n.2 < (a.length:Int) then (idx a n.2).bind fun h=>((j3 h.Log).bind fun y=>(if (n.1++[qh.mk h.Kind h.From h.View h.Normal h.Op h.Commit y]).length≤2147483648 then v (n.1++[qh.mk h.Kind h.From h.View h.Normal h.Op h.Commit y],IntKind.wrap .i64 (n.2+1)) else none)) else l n.1
@[reducible] def xu (a:List qh):Option (List qh):=
 iter (Xv a YZ) FU (([]:List qh),0)
@[reducible] def jP (a:zb):Option zb:=
 (j3 a.Log).bind fun d=>((xu a.Votes).bind fun i=>some (zb.mk a.Me a.Of a.Mode a.View a.Normal a.Commit d i a.Cell a.Nonce))
@[reducible] def YX (a:zr) (d:Yk) (i:List zN) (P:List zb):Option zr:=
 some (zr.mk a.Of P d i)
@[reducible] def Xn (a:zr) (G:(List zb→Option zr)) (I:((Int×List zb)→Option zr)) (z:Int×List zb):Option zr:=
 if z.1 < (a.Replicas.length:Int) then (idx a.Replicas z.1).bind fun w=>((jP w).bind fun p=>(if (z.2++[p]).length≤2147483648 then I (IntKind.wrap .i64 (z.1+1),z.2++[p]) else none)) else G z.2
@[reducible] def xB (a:zr):Option zr:=
 (Jo a.Net).bind fun d=>((Jj a.Replies).bind fun i=>iter (Xn a<|YX a d i) FU (0,([]:List zb)))
@[reducible] def ko (a:Yk) (c:Int):Option Bool:=
 (qi c 0<|IntKind.wrap .i64 ((a.List.length:Int) - 1)).bind fun e=>(some e)
@[reducible] def Y9 (a:List z5) (c J:Int):Option (List z5):=
 if 0≤c∧c < J∧J≤(a.length:Int)∧a.length≤1000000000 then some (List.take (Int.toNat c) a++List.drop (Int.toNat J) a) else none
@[reducible] def kP (a:Yk) (c:Int):Option (Yk×z5×Int):=
 (kF a).bind fun e=>(if e=true then (Jo a).bind fun x=>((ko a c).bind fun u=>(if u=true then (Y9 x.List c<|IntKind.wrap .i64 (c+1)).bind fun w=>((idx a.List c).bind fun p=>some (Yk.mk x.Next w,p,0)) else none)) else none)
@[reducible] def ZK (j:(Int×Int)) (b:Int) (c:Int) (Q:Unit):Option (Int×Int×Bool):=
 some (IntKind.wrap .i64 (j.1+(IntKind.wrap .i64 ((IntKind.wrap .i64<|Int.tmod b 128) * 2 ^ (min (Int.toNat<|IntKind.wrap .i64 (7 * j.2))<|IntKind.bits .i64)))),IntKind.wrap .i64 ((IntKind.wrap .i64 (c+j.2))+1),true)
@[reducible] def yE (c:Int) (a:List Int) (K:((Int×Int)→Option (Int×Int×Bool))) (j:Int×Int):Option (Int×Int×Bool):=
 if j.2 < 9 then if (IntKind.wrap .i64 (c+j.2)) < (a.length:Int) then (idx a<|IntKind.wrap .i64 (c+j.2)).bind fun b=>(if ¬(IntKind.wrap .i64 (7 * j.2)) < 0 then if 128≤b then K (IntKind.wrap .i64 (j.1+(IntKind.wrap .i64 ((IntKind.wrap .i64<|Int.tmod b 128) * 2 ^ (min (Int.toNat<|IntKind.wrap .i64 (7 * j.2))<|IntKind.bits .i64)))),IntKind.wrap .i64 (j.2+1)) else if b=0 then if 0 < j.2 then none else (ZK j b c) () else (ZK j b c) () else none) else none else none
def Zf(b:List Int)(h:Int):Option (Int×Int×Bool):=
 (qi h 0<|IntKind.wrap .i64 ((b.length:Int) - 1)).bind fun j=>(if j=true then iter (yE h b) FU (0,0) else none)
@[reducible] def jT (b:List Int) (i:Unit):Option (List Int):=
 if b.length≤2147483648 then some b else none
@[reducible] def y7 (b:List Int):Option (List Int):=
 if b.length=0 then (jT b) () else (jT b) ()
@[reducible] def zaB (i:Int):Option Int:=
 some (IntKind.wrap .i64<|zhP .u32 i)
@[reducible] def Xq (d:((Int×Int)→Option Int)) (e:(Int×Int)) (k:Int):Option Int:=
 d (k,IntKind.wrap .i64 (e.2+1))
@[reducible] def Y0 (f:(Int→Option Int)) (c:((Int×Int)→Option Int)) (a:Int×Int):Option Int:=
 if a.2 < 8 then if (IntKind.wrap .u32 (BitVec.ofInt (IntKind.bits .u32) a.1&&& BitVec.ofInt (IntKind.bits .u32) 1).toNat)=1 then c (IntKind.wrap .u32 (BitVec.ofInt (IntKind.bits .u32) (Int.fdiv a.1<|2 ^ (min (Int.toNat 1)<|IntKind.bits .u32)) ^^^ BitVec.ofInt (IntKind.bits .u32) 3988292384).toNat,IntKind.wrap .i64 (a.2+1)) else c (Int.fdiv a.1<|2 ^ (min (Int.toNat 1)<|IntKind.bits .u32),IntKind.wrap .i64 (a.2+1)) else f a.1
@[reducible] def Xr (b:List Int) (g:(Int→Option Int)) (d:((Int×Int)→Option Int)) (e:Int×Int):Option Int:=
 if e.2 < (b.length:Int) then (idx b e.2).bind fun l=>(iter (Y0<|Xq d e) FU (IntKind.wrap .u32 (BitVec.ofInt (IntKind.bits .u32) e.1 ^^^ BitVec.ofInt (IntKind.bits .u32) (IntKind.wrap .u32 l)).toNat,0)) else g e.1
def Kv(e:List Int):Option Int:=
 iter (Xr e zaB) FU (4294967295,0)
@[reducible] def j5 (b:Int×List Int):Option (List Int):=
 if (b.2++([IntKind.wrap .u8 b.1])).length≤2147483648 then some (b.2++([IntKind.wrap .u8 b.1])) else none
@[reducible] def yK (c:((Int×List Int)→Option (List Int))) (d:((Int×List Int)→Option (List Int))) (a:Int×List Int):Option (List Int):=
 if 127 < a.1 then if (a.2++([IntKind.wrap .u8 (IntKind.wrap .i64 ((Int.tmod a.1 128)+128))])).length≤2147483648 then d (IntKind.wrap .i64<|Int.tdiv a.1 128,a.2++([IntKind.wrap .u8 (IntKind.wrap .i64 ((Int.tmod a.1 128)+128))])) else none else c (a.1,a.2)
def yy(a:Int):Option (List Int):=
 if a < 0 then none else iter (yK j5) FU (a,([]:List Int))
@[reducible] def Yr (a:List Int) (j:Int):Option (List Int):=
 if 0≤j∧j≤1000000000 then some [] else none
@[reducible] def ZC (k:List Int):Option (List Int):=
 some k
@[reducible] def ZD (a:(List<|List Int)) (g:(List Int→Option (List Int))) (h:((List Int×Int)→Option (List Int))) (c:List Int×Int):Option (List Int):=
 if c.2 < (a.length:Int) then (idx a c.2).bind fun d=>(if (c.1++d).length≤2147483648 then h (c.1++d,IntKind.wrap .i64 (c.2+1)) else none) else g c.1
@[reducible] def ZE (a:(List<|List Int)) (l:Int):Option (List Int):=
 (Yr ([]:List Int) l).bind fun m=>(iter (ZD a ZC) FU (m,0))
@[reducible] def Za (a:(List<|List Int)) (i:(Int→Option (List Int))) (e:((Int×Int)→Option (List Int))) (b:Int×Int):Option (List Int):=
 if b.2 < (a.length:Int) then (idx a b.2).bind fun f=>(if (IntKind.wrap .i64 (b.1+(f.length:Int))) < 0 then none else e (IntKind.wrap .i64 (b.1+(f.length:Int)),IntKind.wrap .i64 (b.2+1))) else i b.1
@[reducible] def yJ (a:(List<|List Int)):Option (List Int):=
 iter (Za a<|ZE a) FU (0,0)
def Jt(a:List Int):Option (List Int×Bool):=
 if 4000 < (a.length:Int) then none else (Kv a).bind fun b=>((yy (a.length:Int)).bind fun h=>(yJ<|[h,a,[IntKind.wrap .u8 b,IntKind.wrap .u8<|Int.fdiv b<|2 ^ (min (Int.toNat 8)<|IntKind.bits .i64),IntKind.wrap .u8<|Int.fdiv b<|2 ^ (min (Int.toNat 16)<|IntKind.bits .i64),IntKind.wrap .u8<|Int.fdiv b<|2 ^ (min (Int.toNat 24)<|IntKind.bits .i64)]]).bind fun i=>some (i,true))
@[reducible] def Ja (k:Unit):Option Bool:=
 some true
@[reducible] def ZT (a:List Int) (c:List Int) (e:(Unit→Option Bool)) (f:(Int→Option Bool)) (d:Int):Option Bool:=
 if d < (a.length:Int) then (idx a d).bind fun j=>((idx c d).bind fun g=>(if ¬j=g then none else f (IntKind.wrap .i64 (d+1)))) else e ()
@[reducible] def y6 (a:List Int) (c:List Int):Option Bool:=
 if ¬(a.length:Int)=(c.length:Int) then none else iter (ZT a c Ja) FU 0
def Jr(b:List Int)(j:Int):Option (List Int×Int×Int):=
 (Zf b j).bind fun f=>(if f.2.2=true then if 4000 < f.1 then none else if (IntKind.wrap .i64 ((b.length:Int) - f.2.1)) < (IntKind.wrap .i64 (f.1+4)) then none else (cut b f.2.1<|IntKind.wrap .i64 (f.2.1+f.1)).bind fun V=>((y7 V).bind fun o=>(Jt o).bind fun A=>(cut b j<|IntKind.wrap .i64 ((IntKind.wrap .i64 (f.2.1+f.1))+4)).bind fun W=>(y6 A.1 W).bind fun B=>(if B=true then some (o,IntKind.wrap .i64 ((IntKind.wrap .i64 (f.2.1+f.1))+4),0) else none)) else none)
@[reducible] def jA (cb1:List Int) (j:Int×Bool):Option (Int×(Int×Bool)):=
 if j.2=true then (Zf cb1 j.1).bind fun S=>(some (S.1,S.2)) else none
@[reducible] def J9 (b:Int) (X:Bool):Option ByteArray:=
 if X=true then some (ByteArray.mk #[70,86,67,76]) else if b=8 then some (ByteArray.mk #[70,110]) else if b=9 then some (ByteArray.mk #[70,86,110,67,76]) else none
@[reducible] def YS (b:Int) (t4:Bool):Option ByteArray:=
 if t4=true then some (ByteArray.mk #[70,86,79]) else if b=4 then some (ByteArray.mk #[70,86,67]) else if b=5 then some (ByteArray.mk #[70,86]) else if b=6 then some (ByteArray.mk #[70,86,78,67,76]) else if b=7 then (J9 b) true else (J9 b) (decide (b=11))
@[reducible] def jD (b:Int):Option ByteArray:=
 if b=1 then some (ByteArray.mk #[99,114,120]) else if b=2 then some (ByteArray.mk #[70,86,79,67,99,114,120]) else if b=3 then (YS b) true else (YS b) (decide (b=10))
@[reducible] def yb (cb1:List Int) (j:Int×Bool):Option (Int×(Int×Bool)):=
 (jA cb1 j).bind fun f=>(if f.2.2=true then some (f.1,(f.2.1,decide (f.1≤1000000001))) else none)
@[reducible] def JI (t8:((List<|List Int)×Int×Bool)):Option ((List<|List Int)×(Int×Bool)):=
 some (t8.1,t8.2)
@[reducible] def ZL (t:(((List<|List Int)×Int×Int×Bool)→Option ((List<|List Int)×(Int×Bool)))) (d:((List<|List Int)×Int×Int×Bool)) (C:((List<|List Int)×Int×Bool)):Option ((List<|List Int)×(Int×Bool)):=
 t (C.1,IntKind.wrap .i64 (d.2.1+1),C.2.1,C.2.2)
@[reducible] def Ji (d:((List<|List Int)×Int×Int×Bool)) (G:(((List<|List Int)×Int×Bool)→Option ((List<|List Int)×(Int×Bool)))) (x:List Int×Int×Bool):Option ((List<|List Int)×(Int×Bool)):=
 if (d.1++[x.1]).length≤2147483648 then G (d.1++[x.1],x.2.1,x.2.2) else none
@[reducible] def x7 (I:Int) (cb1:List Int) (J:((List Int×Int×Bool)→Option ((List<|List Int)×(Int×Bool)))) (K:((List Int×Int×Int×Bool)→Option ((List<|List Int)×(Int×Bool)))) (m:List Int×Int×Int×Bool):Option ((List<|List Int)×(Int×Bool)):=
 if m.2.1 < I then (jA cb1 m.2.2).bind fun n=>(if (m.1++([n.1])).length≤2147483648 then K (m.1++([n.1]),IntKind.wrap .i64 (m.2.1+1),n.2.1,n.2.2) else none) else J (m.1,m.2.2.1,m.2.2.2)
@[reducible] def x6 (F:(Int×(Int×Bool))) (I:Int) (cb1:List Int) (Y:(((List<|List Int)×Int×Bool)→Option ((List<|List Int)×(Int×Bool)))) (t:(((List<|List Int)×Int×Int×Bool)→Option ((List<|List Int)×(Int×Bool)))) (d:((List<|List Int)×Int×Int×Bool)):Option ((List<|List Int)×(Int×Bool)):=
 if d.2.1 < F.1 then if d.2.2.2=true then iter (x7 I cb1<|Ji d<|ZL t d) FU (([]:List Int),0,d.2.2.1,d.2.2.2) else none else Y (d.1,d.2.2.1,d.2.2.2)
@[reducible] def Zm (cb1:List Int) (j:(Int×Bool)) (a3:Int) (I:Int):Option ((List<|List Int)×(Int×Bool)):=
 (jA cb1 j).bind fun F=>(if F.2.2=true then iter (x6 F I cb1 JI) FU (([]:List (List Int)),0,F.2.1,decide (F.1≤a3)) else none)
@[reducible] def Y3 (f:(Int×(Int×Bool))) (T:List zA×Int×Bool):Option (qk×Int×Bool):=
 if T.2.2=true then (qj<|qk.mk f.1 (zB.mk ([]:List zD) ([]:List zN)) T.1).bind fun A=>(if A=true then some (qk.mk f.1 (zB.mk ([]:List zD) ([]:List zN)) T.1,T.2.1,true) else none) else none
@[reducible] def Xf (p:((List<|List Int)×(Int×Bool))) (L:((List zA×Int×Bool)→Option (qk×Int×Bool))) (M:((Int×List zA)→Option (qk×Int×Bool))) (q:Int×List zA):Option (qk×Int×Bool):=
 if q.1 < (p.1.length:Int) then (idx p.1 q.1).bind fun u=>((idx u 0).bind fun n=>(idx u 1).bind fun r=>(idx u 2).bind fun y=>(idx u 3).bind fun N=>(idx u 4).bind fun P=>(if (q.2++([zA.mk n r (qX.mk y N P)])).length≤2147483648 then M (IntKind.wrap .i64 (q.1+1),q.2++([zA.mk n r (qX.mk y N P)])) else none)) else L (q.2,p.2.1,p.2.2)
@[reducible] def YK (cb1:List Int) (f:(Int×(Int×Bool))) (Z:Int×Bool):Option (qk×Int×Bool):=
 (Zm cb1 Z 60 5).bind fun p=>(iter (Xf p<|Y3 f) FU (0,([]:List zA)))
@[reducible] def Xg (v:((List<|List Int)×(Int×Bool))) (kx8:((Int×Bool)→Option (qk×Int×Bool))) (h:(Unit→Option (qk×Int×Bool))) (e:Unit):Option (qk×Int×Bool):=
 if 0 < (v.1.length:Int) then none else kx8 (v.2.1,v.2.2)
@[reducible] def YY (cb1:List Int) (f:(Int×(Int×Bool))) (t5:Int×Bool):Option (qk×Int×Bool):=
 (Zm cb1 t5 10 3).bind fun v=>(iter (Xg v<|YK cb1 f) FU ())
@[reducible] def kI (k:((List<|List Int)×(Int×Bool))) (D:((Int×Bool)→Option (qk×Int×Bool))) (kb41:(Unit→Option (qk×Int×Bool))) (s40:Unit):Option (qk×Int×Bool):=
 if 0 < (k.1.length:Int) then none else D (k.2.1,k.2.2)
@[reducible] def Jv (cb1:List Int) (j:Int):Option (qk×Int×Bool):=
 (jA cb1 (j,true)).bind fun f=>((Zm cb1 f.2 40 2).bind fun k=>iter (kI k<|YY cb1 f) FU ())
@[reducible] def zaI (t3:Unit):Option Bool:=
 some false
@[reducible] def zcU (b:ByteArray) (j:Int) (kx4:(Unit→Option Bool)) (kb6:(Int→Option Bool)) (s5:Int):Option Bool:=
 if s5 < (b.size:Int) then (sidx b s5).bind fun V=>(if V=j then some true else kb6 (IntKind.wrap .i64 (s5+1))) else kx4 ()
@[reducible] def Zz (b:ByteArray) (j:Int):Option Bool:=
 iter (zcU b j zaI) FU 0
@[reducible] def Xa (b:Int) (j:Int):Option Bool:=
 if b=70 then (qi j 0 4).bind fun S=>(some S) else if b=114 then (Qr j).bind fun U=>(some U) else if b=65 then none else (zy j).bind fun o=>(some o)
@[reducible] def ZI (g:ByteArray) (b:qg) (Z:Bool):Option Bool:=
 if Z=true then none else (Zz g 76).bind fun o=>(if o=true then (qj b.Log).bind fun v13=>(if v13=true then (jj b.Log).bind fun B=>((qi b.Commit b.Log.Base B).bind fun v18=>(if v18=true then some (decide (b.Normal≤b.View)) else none)) else none) else (JC b.Log).bind fun v21=>some v21)
@[reducible] def kt (g:ByteArray) (b:qg) (t5:Unit):Option Bool:=
 (Zz g 120).bind fun v23=>(if v23=true then (yA b.Cmd).bind fun y=>(if y=true then (Zz g 120).bind fun z=>(if z=true then (ZI g b) false else (ZI g b) (!(decide (b.Cmd.Kind=0)&&(decide (b.Cmd.Key=0)&&(decide (b.Cmd.Value=0)&&true))))) else none) else (Zz g 120).bind fun v32=>(if v32=true then (ZI g b) false else (ZI g b) (!(decide (b.Cmd.Kind=0)&&(decide (b.Cmd.Key=0)&&(decide (b.Cmd.Value=0)&&true))))))
@[reducible] def Zl (h:(Int→Option Bool)) (e:Int) (t40:Bool):Option Bool:=
 if t40=true then none else h (IntKind.wrap .i64 (e+1))
@[reducible] def XT (g:ByteArray) (b:qg) (D:(Unit→Option Bool)) (h:(Int→Option Bool)) (e:Int):Option Bool:=
 if e < 9 then (sidx (ByteArray.mk #[70,86,79,67,78,110,99,114,65]) e).bind fun k=>((sidx (ByteArray.mk #[70,86,79,67,78,110,99,114,65]) e).bind fun v43=>(Zz g v43).bind fun v45=>(if v45=true then (sidx (ByteArray.mk #[70,86,79,67,78,110,99,114,65]) e).bind fun v48=>((Xa v48<|zf4 k b.From b.View b.Op b.Commit b.Normal b.Nonce b.Client b.Req b.Answer).bind fun v50=>(if v50=true then (sidx (ByteArray.mk #[70,86,79,67,78,110,99,114,65]) e).bind fun v53=>((Zz g v53).bind fun v55=>(if v55=true then (Zl h e) false else (Zl h e) (decide (¬(zf4 k b.From b.View b.Op b.Commit b.Normal b.Nonce b.Client b.Req b.Answer)=0)))) else none)) else (sidx (ByteArray.mk #[70,86,79,67,78,110,99,114,65]) e).bind fun v58=>(Zz g v58).bind fun v60=>(if v60=true then (Zl h e) false else (Zl h e) (decide (¬(zf4 k b.From b.View b.Op b.Commit b.Normal b.Nonce b.Client b.Req b.Answer)=0))))) else D ()
@[reducible] def jH (b:qg):Option Bool:=
 (jD b.Kind).bind fun g=>(if (g.toList == ByteArray.empty.toList)=true then none else iter (XT g b<|kt g b) FU 0)
@[reducible] def Qs (g:(List Int×Int×Int)) (U:(Int×(Int×Bool))) (c:Int×Int×Int×Int×Int×Int×Int×Int×Int×Int×Int×Int×Int×List zD×List zN×List zA×Int×Bool):Option (qg×Int):=
 if c.2.2.2.2.2.2.2.2.2.2.2.2.2.2.2.2.2=true then if ¬c.2.2.2.2.2.2.2.2.2.2.2.2.2.2.2.2.1=(g.1.length:Int) then none else (jH<|qg.mk U.1 c.1 c.2.1 c.2.2.1 c.2.2.2.1 c.2.2.2.2.1 c.2.2.2.2.2.1 c.2.2.2.2.2.2.1 c.2.2.2.2.2.2.2.1 c.2.2.2.2.2.2.2.2.1 (qX.mk c.2.2.2.2.2.2.2.2.2.1 c.2.2.2.2.2.2.2.2.2.2.1 c.2.2.2.2.2.2.2.2.2.2.2.1)<|qk.mk c.2.2.2.2.2.2.2.2.2.2.2.2.1 (zB.mk c.2.2.2.2.2.2.2.2.2.2.2.2.2.1 c.2.2.2.2.2.2.2.2.2.2.2.2.2.2.1) c.2.2.2.2.2.2.2.2.2.2.2.2.2.2.2.1).bind fun v17=>(if v17=true then some (qg.mk U.1 c.1 c.2.1 c.2.2.1 c.2.2.2.1 c.2.2.2.2.1 c.2.2.2.2.2.1 c.2.2.2.2.2.2.1 c.2.2.2.2.2.2.2.1 c.2.2.2.2.2.2.2.2.1 (qX.mk c.2.2.2.2.2.2.2.2.2.1 c.2.2.2.2.2.2.2.2.2.2.1 c.2.2.2.2.2.2.2.2.2.2.2.1)<|qk.mk c.2.2.2.2.2.2.2.2.2.2.2.2.1 (zB.mk c.2.2.2.2.2.2.2.2.2.2.2.2.2.1 c.2.2.2.2.2.2.2.2.2.2.2.2.2.2.1) c.2.2.2.2.2.2.2.2.2.2.2.2.2.2.2.1,0) else none) else none
@[reducible] def Ym (v9:ByteArray) (g:(List Int×Int×Int)) (Q:((Int×Int×Int×Int×Int×Int×Int×Int×Int×Int×Int×Int×Int×List zD×List zN×List zA×Int×Bool)→Option (qg×Int))) (w:((Int×Int×Int×Int×Int×Int×Int×Int×Int×Int×Int×Int×Int×Int×List zD×List zN×List zA×Int×Bool)→Option (qg×Int))) (a:Int×Int×Int×Int×Int×Int×Int×Int×Int×Int×Int×Int×Int×Int×List zD×List zN×List zA×Int×Bool):Option (qg×Int):=
 if a.1 < (v9.size:Int) then if a.2.2.2.2.2.2.2.2.2.2.2.2.2.2.2.2.2.2=true then (sidx v9 a.1).bind fun r=>(if r=120 then (yb g.1 a.2.2.2.2.2.2.2.2.2.2.2.2.2.2.2.2.2).bind fun R=>((yb g.1 R.2).bind fun z=>(yb g.1 z.2).bind fun E=>w (IntKind.wrap .i64 (a.1+1),a.2.1,a.2.2.1,a.2.2.2.1,a.2.2.2.2.1,a.2.2.2.2.2.1,a.2.2.2.2.2.2.1,a.2.2.2.2.2.2.2.1,a.2.2.2.2.2.2.2.2.1,a.2.2.2.2.2.2.2.2.2.1,R.1,z.1,E.1,a.2.2.2.2.2.2.2.2.2.2.2.2.2.1,a.2.2.2.2.2.2.2.2.2.2.2.2.2.2.1,a.2.2.2.2.2.2.2.2.2.2.2.2.2.2.2.1,a.2.2.2.2.2.2.2.2.2.2.2.2.2.2.2.2.1,E.2.1,E.2.2)) else if r=76 then (Jv g.1 a.2.2.2.2.2.2.2.2.2.2.2.2.2.2.2.2.2.1).bind fun s=>(w (IntKind.wrap .i64 (a.1+1),a.2.1,a.2.2.1,a.2.2.2.1,a.2.2.2.2.1,a.2.2.2.2.2.1,a.2.2.2.2.2.2.1,a.2.2.2.2.2.2.2.1,a.2.2.2.2.2.2.2.2.1,a.2.2.2.2.2.2.2.2.2.1,a.2.2.2.2.2.2.2.2.2.2.1,a.2.2.2.2.2.2.2.2.2.2.2.1,a.2.2.2.2.2.2.2.2.2.2.2.2.1,s.1.Base,s.1.Image.Cells,s.1.Image.Seats,s.1.Entries,s.2.1,s.2.2)) else if r=65 then none else (sidx v9 a.1).bind fun l=>(yb g.1 a.2.2.2.2.2.2.2.2.2.2.2.2.2.2.2.2.2).bind fun i=>w (IntKind.wrap .i64 (a.1+1),Km 1 l i.1 a.2.1,Km 2 l i.1 a.2.2.1,Km 3 l i.1 a.2.2.2.1,Km 4 l i.1 a.2.2.2.2.1,Km 5 l i.1 a.2.2.2.2.2.1,Km 6 l i.1 a.2.2.2.2.2.2.1,Km 7 l i.1 a.2.2.2.2.2.2.2.1,Km 8 l i.1 a.2.2.2.2.2.2.2.2.1,Km 9 l i.1 a.2.2.2.2.2.2.2.2.2.1,a.2.2.2.2.2.2.2.2.2.2.1,a.2.2.2.2.2.2.2.2.2.2.2.1,a.2.2.2.2.2.2.2.2.2.2.2.2.1,a.2.2.2.2.2.2.2.2.2.2.2.2.2.1,a.2.2.2.2.2.2.2.2.2.2.2.2.2.2.1,a.2.2.2.2.2.2.2.2.2.2.2.2.2.2.2.1,a.2.2.2.2.2.2.2.2.2.2.2.2.2.2.2.2.1,i.2.1,i.2.2)) else none else Q (a.2.1,a.2.2.1,a.2.2.2.1,a.2.2.2.2.1,a.2.2.2.2.2.1,a.2.2.2.2.2.2.1,a.2.2.2.2.2.2.2.1,a.2.2.2.2.2.2.2.2.1,a.2.2.2.2.2.2.2.2.2.1,a.2.2.2.2.2.2.2.2.2.2.1,a.2.2.2.2.2.2.2.2.2.2.2.1,a.2.2.2.2.2.2.2.2.2.2.2.2.1,a.2.2.2.2.2.2.2.2.2.2.2.2.2.1,a.2.2.2.2.2.2.2.2.2.2.2.2.2.2.1,a.2.2.2.2.2.2.2.2.2.2.2.2.2.2.2.1,a.2.2.2.2.2.2.2.2.2.2.2.2.2.2.2.2.1,a.2.2.2.2.2.2.2.2.2.2.2.2.2.2.2.2.2.1,a.2.2.2.2.2.2.2.2.2.2.2.2.2.2.2.2.2.2)
def Zk(a:List Int):Option (qg×Int):=
 (Jr a 0).bind fun v2=>(if ¬v2.2.2=0 then none else if ¬v2.2.1=(a.length:Int) then none else (jA v2.1 (0,true)).bind fun l=>(jD l.1).bind fun m=>(if l.2.2=true then if (m.toList == ByteArray.empty.toList)=true then none else iter (Ym m v2<|Qs v2 l) FU (0,0,0,0,0,0,0,0,0,0,0,0,0,0,([]:List zD),([]:List zN),([]:List zA),l.2.1,l.2.2) else none))
@[reducible] def YF (F:(ze→Option ze)) (l:zb) (t12:Bool):Option (zb×List jJ):=
 if t12=true then (F<|ze.mk l ([]:List jJ)).bind fun e=>(some (e.Replica,e.outs)) else none
@[reducible] def yz (a:zb) (b:qg) (g:Int) (F:ze→Option ze):Option (zb×List jJ):=
 (qN a).bind fun n=>(if n=true then (jP a).bind fun l=>((jH b).bind fun m=>(if m=true then if b.Kind=g then (jD g).bind fun p=>((Zz p 70).bind fun s=>(if s=true then (qi b.From 0<|IntKind.wrap .i64 (a.Of - 1)).bind fun j=>(if j=true then (YF F l) (decide (¬b.From=a.Me)) else none) else (YF F l) (decide (b.Kind=g)))) else none else none)) else none)
@[reducible] def qM (a:ze):Option Bool:=
 if ¬a.Replica.Of=0 then some (decide (a.Replica.Me=(Int.tmod a.Replica.View a.Replica.Of))) else none
@[reducible] def JF (a:zN) (b:Int):Option Int:=
 some (IntKind.wrap .i64 (a.Client - b))
@[reducible] def qH (a:List zN) (b:Int) (t3:Unit):Option (Int×Bool):=
 if 0 < (a.length:Int) then (idx a 0).bind fun D=>((JF D b).bind fun Y=>some (0,decide (Y=0))) else some (0,false)
@[reducible] def jC (a:List zN) (b:Int) (W:(Unit→Option (Int×Bool))) (kb11:(Int→Option (Int×Bool))) (y:Int):Option (Int×Bool):=
 if 0 < y then (idx a<|IntKind.wrap .i64<|Int.fdiv (IntKind.wrap .u64<|IntKind.wrap .i64 (0+y))<|2 ^ (min (Int.toNat 1)<|IntKind.bits .u64)).bind fun h=>((JF h b).bind fun e=>(if e < 0 then none else kb11 (IntKind.wrap .i64<|Int.fdiv (IntKind.wrap .u64<|IntKind.wrap .i64 (0+y))<|2 ^ (min (Int.toNat 1)<|IntKind.bits .u64)))) else W ()
@[reducible] def qJ (a:List zN) (b:Int):Option (Int×Bool):=
 iter (jC a b<|qH a b) FU (a.length:Int)
@[reducible] def YT (a:zB) (b:Int):Option (Int×Bool):=
 (qJ a.Seats b).bind fun c=>(some (c.1,c.2))
@[reducible] def yr (a:zD) (b:Int):Option Int:=
 some (IntKind.wrap .i64 (a.Key - b))
@[reducible] def zW (a:List zD) (b:Int) (t3:Int):Option (Int×Bool):=
 if t3 < (a.length:Int) then (idx a t3).bind fun D=>((yr D b).bind fun Y=>some (t3,decide (Y=0))) else some (t3,false)
@[reducible] def z8 (a:List zD) (b:Int) (W:(Int→Option (Int×Bool))) (kb11:((Int×Int)→Option (Int×Bool))) (y:Int×Int):Option (Int×Bool):=
 if y.1 < y.2 then (idx a<|IntKind.wrap .i64<|Int.fdiv (IntKind.wrap .u64<|IntKind.wrap .i64 (y.1+y.2))<|2 ^ (min (Int.toNat 1)<|IntKind.bits .u64)).bind fun h=>((yr h b).bind fun e=>(if e < 0 then kb11 (IntKind.wrap .i64 ((IntKind.wrap .i64<|Int.fdiv (IntKind.wrap .u64<|IntKind.wrap .i64 (y.1+y.2))<|2 ^ (min (Int.toNat 1)<|IntKind.bits .u64))+1),y.2) else kb11 (y.1,IntKind.wrap .i64<|Int.fdiv (IntKind.wrap .u64<|IntKind.wrap .i64 (y.1+y.2))<|2 ^ (min (Int.toNat 1)<|IntKind.bits .u64)))) else W y.1
@[reducible] def zX (a:List zD) (b:Int):Option (Int×Bool):=
 iter (z8 a b<|zW a b) FU (0,(a.length:Int))
@[reducible] def jl (a:List zD) (b:Int):Option (Int×Bool):=
 (zX a b).bind fun c=>(some (c.1,c.2))
@[reducible] def j6 (a:List zD) (b:Int):Option Int:=
 (jl a b).bind fun c=>(if c.2=true then (idx a c.1).bind fun D=>(some D.Value) else some (-1))
@[reducible] def QY (a:List zD) (b g:Int):Option (List zD):=
 if 0≤b∧b < g∧g≤(a.length:Int)∧a.length≤1000000000 then some (List.take (Int.toNat b) a++List.drop (Int.toNat g) a) else none
@[reducible] def yN (a:List zD) (b:Int) (g:List zD):Option (List zD):=
 if 0≤b∧b≤(a.length:Int)∧g.length=1∧a.length≤1000000000 then some (List.take (Int.toNat b) a++(g++List.drop (Int.toNat b) a)) else none
@[reducible] def yd (a:List zD) (n:(Int×Bool)) (g:Int) (b:Int) (t:Bool):Option (List zD):=
 if t=true then (z6 a).bind fun m=>((QY m n.1<|IntKind.wrap .i64 (n.1+1)).bind fun E=>some E) else if g=(-1) then (z6 a).bind fun v=>(some v) else if n.2=true then (z6 a).bind fun q=>((idx q n.1).bind fun r=>some (q.set (Int.toNat n.1)<|zD.mk r.Key g)) else (z6 a).bind fun G=>((yN G n.1<|[zD.mk b g]).bind fun j=>some j)
@[reducible] def jw (a:List zD) (b:Int) (g:Int):Option (List zD):=
 (jl a b).bind fun n=>(if g=(-1) then (yd a n g b) n.2 else (yd a n g b) false)
@[reducible] def yM (t7:Int) (c:zB) (b:qX) (t9:Unit):Option (zB×Int):=
 if 1000000000 < t7 then some (c,(-1)) else (jw c.Cells b.Key t7).bind fun x=>(some (zB.mk x c.Seats,t7))
@[reducible] def yL (Q:Int) (c:zB) (b:qX) (t7:Int):Option (zB×Int):=
 if Q < 0 then if ((c.Cells.length:Nat):Int)=40 then none else (yM t7 c b) () else (yM t7 c b) ()
@[reducible] def qG (a:zB) (b:qX):Option (zB×Int):=
 (yt a).bind fun c=>((j6 c.Cells b.Key).bind fun Q=>(if b.Kind=1 then some (c,Q) else if b.Kind=4 then (jw c.Cells b.Key (-1)).bind fun p=>(some (zB.mk p c.Seats,Q)) else if b.Kind=3 then (yL Q c b) (IntKind.wrap .i64 (b.Value+(if Q < 0 then 0 else Q))) else (yL Q c b) b.Value))
@[reducible] def x5 (a:List zN) (b:Int) (g:List zN):Option (List zN):=
 if 0≤b∧b≤(a.length:Int)∧g.length=1∧a.length≤1000000000 then some (List.take (Int.toNat b) a++(g++List.drop (Int.toNat b) a)) else none
@[reducible] def QK (s:(zB×Int)) (t22:List zN):Option (zB×Int×Int):=
 some (zB.mk s.1.Cells t22,s.2,0)
@[reducible] def QQ (a:zB) (b:zA) (m:(Int×Bool)) (t17:Bool):Option (zB×Int×Int):=
 if t17=true then none else (qG a b.Cmd).bind fun s=>(if m.2=true then (idx s.1.Seats m.1).bind fun z=>((QK s)<|s.1.Seats.set (Int.toNat m.1)<|zN.mk b.Client b.Req s.2) else (x5 s.1.Seats m.1<|[zN.mk b.Client b.Req s.2]).bind fun L=>(QK s) L)
@[reducible] def QT (m:(Int×Bool)) (a:zB) (b:zA) (t14:Bool):Option (zB×Int×Int):=
 if t14=true then none else if m.2=true then (QQ a b m) false else (QQ a b m) (decide ((a.Seats.length:Int)=10))
@[reducible] def QI (m:(Int×Bool)) (a:zB) (b:zA) (f:Bool):Option (zB×Int×Int):=
 if f=true then none else if m.2=true then (idx a.Seats m.1).bind fun A=>((QT m a b)<|decide (b.Req < A.Req)) else (QT m a b) false
@[reducible] def yc (a:zB) (b:zA):Option (zB×Int×Int):=
 (yD a).bind fun c=>(if c=true then (qw b).bind fun D=>(if D=true then (YT a b.Client).bind fun m=>(if m.2=true then (idx a.Seats m.1).bind fun v34=>((QI m a b)<|decide (v34.Req=b.Req)) else (QI m a b) false) else none) else none)
@[reducible] def Xc (t:List Int×List zD×List zN):Option (zB×List Int):=
 some (zB.mk t.2.1 t.2.2,t.1)
@[reducible] def zaD (b:List zA) (kx7:((List Int×List zD×List zN)→Option (zB×List Int))) (kb9:((List Int×Int×List zD×List zN)→Option (zB×List Int))) (s8:List Int×Int×List zD×List zN):Option (zB×List Int):=
 if s8.2.1 < (b.length:Int) then (idx b s8.2.1).bind fun E=>((yc (zB.mk s8.2.2.1 s8.2.2.2) E).bind fun h=>(if ¬h.2.2=1 then if (s8.1++([h.2.1])).length≤2147483648 then kb9 (s8.1++([h.2.1]),IntKind.wrap .i64 (s8.2.1+1),h.1.Cells,h.1.Seats) else none else none)) else kx7 (s8.1,s8.2.2.1,s8.2.2.2)
@[reducible] def XO (a:zB) (b:List zA):Option (zB×List Int):=
 (yt a).bind fun c=>(if 60 < (b.length:Int) then none else iter (zaD b Xc) FU (([]:List Int),0,c.Cells,c.Seats))
@[reducible] def Ju (a:qk) (b:Int):Option zB:=
 (cut a.Entries 0<|IntKind.wrap .i64 (b - a.Base)).bind fun c=>((XO a.Image c).bind fun Q=>some Q.1)
@[reducible] def xO (a:zB) (b:Int):Option (zN×Bool):=
 (yD a).bind fun c=>(if c=true then (YT a b).bind fun D=>(if D.2=true then (idx a.Seats D.1).bind fun m=>(some (m,true)) else some (zN.mk 0 0 0,false)) else none)
@[reducible] def Jb (a:zA) (b:qg):Option Bool:=
 if a.Client=b.Client then some (decide (a.Req=b.Req)) else some false
@[reducible] def qV (t3:Unit):Option Int:=
 some (-1)
@[reducible] def yj (a:List zA) (b:qg) (W:(Unit→Option Int)) (M:(Int→Option Int)) (I:Int):Option Int:=
 if I < (a.length:Int) then (idx a I).bind fun Y=>((Jb Y b).bind fun X=>(if X=true then none else M (IntKind.wrap .i64 (I+1)))) else W ()
@[reducible] def jd (a:List zA) (b:qg):Option Int:=
 iter (yj a b qV) FU 0
@[reducible] def qz (a:List zA) (b:qg):Option Bool:=
 (jd a b).bind fun c=>(some<|decide (0≤c))
@[reducible] def XF (a:qk) (b:zA):Option (qk×Bool):=
 (qj a).bind fun c=>(if c=true then (j3 a).bind fun D=>((qw b).bind fun Y=>(if Y=true then if (a.Entries.length:Int)=60 then none else (jj a).bind fun x=>(if x=1000000000 then none else if (D.Entries++([b])).length≤2147483648 then some (qk.mk D.Base D.Image (D.Entries++([b])),true) else none) else none)) else none)
@[reducible] def QR (a:ze) (b:zA):Option (Bool×ze):=
 if ((a.Replica.Log.Entries.length:Nat):Int)=60 then none else (XF a.Replica.Log b).bind fun n=>(if n.2=true then some (n.2,ze.mk (zb.mk a.Replica.Me a.Replica.Of a.Replica.Mode a.Replica.View a.Replica.Normal a.Replica.Commit n.1 a.Replica.Votes a.Replica.Cell a.Replica.Nonce) a.outs) else none)
@[reducible] def QF (a:ze) (b:Int) (g:zA):Option qg:=
 some (qg.mk 2 a.Replica.Me a.Replica.View b a.Replica.Commit 0 0 g.Client g.Req 0 g.Cmd<|qk.mk 0 (zB.mk ([]:List zD) ([]:List zN)) ([]:List zA))
@[reducible] def jh (a:ze) (b:Int) (g:qg):Option ze:=
 (j3 g.Log).bind fun n=>(if (a.outs++[jJ.mk b (qg.mk g.Kind g.From g.View g.Op g.Commit g.Normal g.Nonce g.Client g.Req g.Answer g.Cmd n)]).length≤2147483648 then some (ze.mk a.Replica (a.outs++[jJ.mk b (qg.mk g.Kind g.From g.View g.Op g.Commit g.Normal g.Nonce g.Client g.Req g.Answer g.Cmd n)])) else none)
@[reducible] def YI (a:ze) (b:qg) (kb4:((Int×Int×Int×Int×Int×Int×Int×Int×Int×Int×List jJ)→Option ze)) (u:Int×Int×Int×Int×Int×Int×Int×Int×Int×Int×List jJ):Option ze:=
 if u.1 < a.Replica.Of then if ¬u.1=u.2.1 then (jh (ze.mk (zb.mk u.2.1 u.2.2.1 u.2.2.2.1 u.2.2.2.2.1 u.2.2.2.2.2.1 u.2.2.2.2.2.2.1 (qk.mk u.2.2.2.2.2.2.2.1 a.Replica.Log.Image a.Replica.Log.Entries) a.Replica.Votes u.2.2.2.2.2.2.2.2.1 u.2.2.2.2.2.2.2.2.2.1) u.2.2.2.2.2.2.2.2.2.2) u.1 b).bind fun l=>(kb4 (IntKind.wrap .i64 (u.1+1),l.Replica.Me,l.Replica.Of,l.Replica.Mode,l.Replica.View,l.Replica.Normal,l.Replica.Commit,l.Replica.Log.Base,l.Replica.Cell,l.Replica.Nonce,l.outs)) else kb4 (IntKind.wrap .i64 (u.1+1),u.2.1,u.2.2.1,u.2.2.2.1,u.2.2.2.2.1,u.2.2.2.2.2.1,u.2.2.2.2.2.2.1,u.2.2.2.2.2.2.2.1,u.2.2.2.2.2.2.2.2.1,u.2.2.2.2.2.2.2.2.2.1,u.2.2.2.2.2.2.2.2.2.2) else some (ze.mk (zb.mk u.2.1 u.2.2.1 u.2.2.2.1 u.2.2.2.2.1 u.2.2.2.2.2.1 u.2.2.2.2.2.2.1 (qk.mk u.2.2.2.2.2.2.2.1 a.Replica.Log.Image a.Replica.Log.Entries) a.Replica.Votes u.2.2.2.2.2.2.2.2.1 u.2.2.2.2.2.2.2.2.2.1) u.2.2.2.2.2.2.2.2.2.2)
@[reducible] def qW (a:ze) (b:qg):Option ze:=
 iter (YI a b) FU (0,a.Replica.Me,a.Replica.Of,a.Replica.Mode,a.Replica.View,a.Replica.Normal,a.Replica.Commit,a.Replica.Log.Base,a.Replica.Cell,a.Replica.Nonce,a.outs)
@[reducible] def ZR (a:ze) (b:qg) (t15:Unit):Option ze:=
 (QR a<|zA.mk b.Client b.Req b.Cmd).bind fun j=>(if j.1=true then (jj j.2.Replica.Log).bind fun J=>((QF (ze.mk (zb.mk j.2.Replica.Me j.2.Replica.Of j.2.Replica.Mode j.2.Replica.View j.2.Replica.Normal j.2.Replica.Commit j.2.Replica.Log a.Replica.Votes j.2.Replica.Cell j.2.Replica.Nonce) a.outs) J<|zA.mk b.Client b.Req b.Cmd).bind fun o=>(qW (ze.mk (zb.mk j.2.Replica.Me j.2.Replica.Of j.2.Replica.Mode j.2.Replica.View j.2.Replica.Normal j.2.Replica.Commit j.2.Replica.Log a.Replica.Votes j.2.Replica.Cell j.2.Replica.Nonce) a.outs) o).bind fun N=>(if N.Replica.Of=1 then none else some (ze.mk (zb.mk N.Replica.Me N.Replica.Of N.Replica.Mode N.Replica.View N.Replica.Normal N.Replica.Commit (qk.mk N.Replica.Log.Base j.2.Replica.Log.Image j.2.Replica.Log.Entries) a.Replica.Votes N.Replica.Cell N.Replica.Nonce) N.outs))) else none)
@[reducible] def ZU (a:ze) (m:(zN×Bool)) (b:qg) (f:Bool):Option ze:=
 if f=true then none else if (0:Int)≤(IntKind.wrap .i64 (a.Replica.Commit - a.Replica.Log.Base))∧(IntKind.wrap .i64 (a.Replica.Commit - a.Replica.Log.Base))≤((a.Replica.Log.Entries.length:Nat):Int)∧((a.Replica.Log.Entries.length:Nat):Int)≤((a.Replica.Log.Entries.length:Nat):Int) then if m.2=true then if b.Req < m.1.Req then none else (qz (List.take (Int.toNat ((a.Replica.Log.Entries.length:Nat):Int) - Int.toNat (IntKind.wrap .i64 (a.Replica.Commit - a.Replica.Log.Base)))<|List.drop (Int.toNat<|IntKind.wrap .i64 (a.Replica.Commit - a.Replica.Log.Base)) a.Replica.Log.Entries) b).bind fun v47=>(if v47=true then none else (ZR a b) ()) else (qz (List.take (Int.toNat ((a.Replica.Log.Entries.length:Nat):Int) - Int.toNat (IntKind.wrap .i64 (a.Replica.Commit - a.Replica.Log.Base)))<|List.drop (Int.toNat<|IntKind.wrap .i64 (a.Replica.Commit - a.Replica.Log.Base)) a.Replica.Log.Entries) b).bind fun v50=>(if v50=true then none else (ZR a b) ()) else none
@[reducible] def Yi (a:ze) (b:qg):Option ze:=
 if ¬a.Replica.Mode=1 then none else (qM a).bind fun n=>(if n=true then (Ju a.Replica.Log a.Replica.Commit).bind fun l=>((xO l b.Client).bind fun m=>(if m.2=true then (ZU a m b) (decide (m.1.Req=b.Req)) else (ZU a m b) false)) else none)
@[reducible] def xm (a:zb) (b:qg):Option (zb×List jJ):=
 (yz a b 1 (fun k=>Yi k b)).bind fun c=>(some (c.1,c.2))
@[reducible] def ju (a:ze):Option Bool:=
 if a.Replica.Mode=1 then some true else some (decide (a.Replica.Mode=2))
@[reducible] def ZA (a:ze) (b:qg):Option (Bool×ze):=
 (ju a).bind fun c=>(if c=true then if a.Replica.View < b.View then none else if b.View=a.Replica.View then if a.Replica.Mode=1 then (qM a).bind fun m=>(if m=true then none else if ¬a.Replica.Of=0 then some (decide (b.From=(Int.tmod a.Replica.View a.Replica.Of)),a) else none) else none else none else none)
@[reducible] def Ql (a:ze) (b:Int):Option ze:=
 (jj a.Replica.Log).bind fun c=>(some<|ze.mk (zb.mk a.Replica.Me a.Replica.Of a.Replica.Mode a.Replica.View a.Replica.Normal (if a.Replica.Commit < (if c < b then c else b) then if c < b then c else b else a.Replica.Commit) a.Replica.Log a.Replica.Votes a.Replica.Cell a.Replica.Nonce) a.outs)
@[reducible] def Jx (a:ze) (b:Int):Option ze:=
 (jj a.Replica.Log).bind fun c=>((jh a b<|qg.mk 3 a.Replica.Me a.Replica.View c 0 0 0 0 0 0 (qX.mk 0 0 0)<|qk.mk 0 (zB.mk ([]:List zD) ([]:List zN)) ([]:List zA)).bind fun v=>some (ze.mk (zb.mk v.Replica.Me v.Replica.Of v.Replica.Mode v.Replica.View v.Replica.Normal v.Replica.Commit (qk.mk v.Replica.Log.Base a.Replica.Log.Image a.Replica.Log.Entries) v.Replica.Votes v.Replica.Cell v.Replica.Nonce) v.outs))
@[reducible] def Ys (a:ze) (b:qg):Option ze:=
 (ZA a b).bind fun c=>(if c.1=true then (jj c.2.Replica.Log).bind fun D=>(if (IntKind.wrap .i64 (D+1)) < b.Op then none else (jj c.2.Replica.Log).bind fun m=>(if b.Op=(IntKind.wrap .i64 (m+1)) then (QR c.2<|zA.mk b.Client b.Req b.Cmd).bind fun p=>(if p.1=true then (Ql (ze.mk (zb.mk p.2.Replica.Me p.2.Replica.Of p.2.Replica.Mode p.2.Replica.View p.2.Replica.Normal p.2.Replica.Commit p.2.Replica.Log c.2.Replica.Votes p.2.Replica.Cell p.2.Replica.Nonce) c.2.outs) b.Commit).bind fun L=>((Jx (ze.mk (zb.mk L.Replica.Me L.Replica.Of L.Replica.Mode L.Replica.View L.Replica.Normal L.Replica.Commit L.Replica.Log c.2.Replica.Votes L.Replica.Cell L.Replica.Nonce) c.2.outs) b.From).bind fun R=>some (ze.mk (zb.mk R.Replica.Me R.Replica.Of R.Replica.Mode R.Replica.View R.Replica.Normal R.Replica.Commit R.Replica.Log c.2.Replica.Votes R.Replica.Cell R.Replica.Nonce) R.outs)) else none) else none)) else none)
@[reducible] def xp (a:zb) (b:qg):Option (zb×List jJ):=
 (yz a b 2 (fun k=>Ys k b)).bind fun c=>(some (c.1,c.2))
@[reducible] def Q8 (a:qh) (b:Int) (g:Int):Option Bool:=
 if a.Kind=b then some (decide (a.From=g)) else some false
@[reducible] def jb (t4:Unit):Option Int:=
 some (-1)
@[reducible] def yx (a:List qh) (b:Int) (g:Int) (kx5:(Unit→Option Int)) (kb7:(Int→Option Int)) (s6:Int):Option Int:=
 if s6 < (a.length:Int) then (idx a s6).bind fun m=>((Q8 m b g).bind fun E=>(if E=true then some s6 else kb7 (IntKind.wrap .i64 (s6+1)))) else kx5 ()
@[reducible] def jk (a:List qh) (b:Int) (g:Int):Option Int:=
 iter (yx a b g jb) FU 0
@[reducible] def jm (a:ze) (b:Int) (g:Int):Option Int:=
 (jk a.Replica.Votes b g).bind fun n=>(some n)
@[reducible] def jL (a:ze) (b:qh):Option ze:=
 if ((a.Replica.Votes.length:Nat):Int) < 20 then (j3 b.Log).bind fun n=>(if (a.Replica.Votes++[qh.mk b.Kind b.From b.View b.Normal b.Op b.Commit n]).length≤2147483648 then some (ze.mk (zb.mk a.Replica.Me a.Replica.Of a.Replica.Mode a.Replica.View a.Replica.Normal a.Replica.Commit a.Replica.Log (a.Replica.Votes++[qh.mk b.Kind b.From b.View b.Normal b.Op b.Commit n]) a.Replica.Cell a.Replica.Nonce) a.outs) else none) else none
@[reducible] def ym (a:ze):Option Int:=
 some (IntKind.wrap .i64<|Int.tdiv (IntKind.wrap .i64 (a.Replica.Of - 1)) 2)
@[reducible] def QD (a:ze) (i:Unit):Option Int:=
 some a.Replica.Commit
@[reducible] def QH (a:ze) (n:Int) (t9:Int):Option Int:=
 (ym a).bind fun E=>(if E≤t9 then some n else none)
@[reducible] def YH (a:ze) (n:Int) (kx10:(Int→Option Int)) (kb15:((Int×Int)→Option Int)) (s14:Int×Int):Option Int:=
 if s14.2 < (a.Replica.Votes.length:Int) then (idx a.Replica.Votes s14.2).bind fun q=>(if q.Kind=3 then if n≤q.Op then kb15 (IntKind.wrap .i64 (s14.1+1),IntKind.wrap .i64 (s14.2+1)) else kb15 (s14.1,IntKind.wrap .i64 (s14.2+1)) else none) else kx10 s14.1
@[reducible] def xe (a:ze) (n:Int) (P:(Unit→Option Int)) (kb7:(Unit→Option Int)) (s6:Unit):Option Int:=
 if a.Replica.Commit < n then iter (YH a n<|QH a n) FU (0,0) else P ()
@[reducible] def Q4 (a:ze):Option Int:=
 (jj a.Replica.Log).bind fun n=>(iter (xe a n<|QD a) FU ())
@[reducible] def KD (a:qk) (b:Int):Option (zA×Bool):=
 (qj a).bind fun c=>(if c=true then (jj a).bind fun D=>((qi b (IntKind.wrap .i64 (a.Base+1)) D).bind fun Y=>(if Y=true then (idx a.Entries<|IntKind.wrap .i64 ((IntKind.wrap .i64 (b - a.Base)) - 1)).bind fun E=>(some (E,true)) else none)) else none)
@[reducible] def xj (g:Int) (a:ze) (kb5:((Int×Int×Int×Int×Int×Int×Int×Int×Int×Int×List jJ)→Option ze)) (w:Int×Int×Int×Int×Int×Int×Int×Int×Int×Int×List jJ):Option ze:=
 if w.1≤g then (KD (qk.mk w.2.2.2.2.2.2.2.1 a.Replica.Log.Image a.Replica.Log.Entries) w.1).bind fun l=>((Ju (qk.mk w.2.2.2.2.2.2.2.1 a.Replica.Log.Image a.Replica.Log.Entries)<|IntKind.wrap .i64 (w.1 - 1)).bind fun m=>(yc m l.1).bind fun E=>(xO m l.1.Client).bind fun h=>(if E.2.2=0 then (jh (ze.mk (zb.mk w.2.1 w.2.2.1 w.2.2.2.1 w.2.2.2.2.1 w.2.2.2.2.2.1 w.2.2.2.2.2.2.1 (qk.mk w.2.2.2.2.2.2.2.1 a.Replica.Log.Image a.Replica.Log.Entries) a.Replica.Votes w.2.2.2.2.2.2.2.2.1 w.2.2.2.2.2.2.2.2.2.1) w.2.2.2.2.2.2.2.2.2.2) (-1)<|qg.mk 12 0 w.2.2.2.2.1 0 0 0 0 l.1.Client l.1.Req E.2.1 (qX.mk 0 0 0)<|qk.mk 0 (zB.mk ([]:List zD) ([]:List zN)) ([]:List zA)).bind fun z=>(kb5 (IntKind.wrap .i64 (w.1+1),z.Replica.Me,z.Replica.Of,z.Replica.Mode,z.Replica.View,z.Replica.Normal,z.Replica.Commit,z.Replica.Log.Base,z.Replica.Cell,z.Replica.Nonce,z.outs)) else none)) else some (ze.mk (zb.mk w.2.1 w.2.2.1 w.2.2.2.1 w.2.2.2.2.1 w.2.2.2.2.2.1 w.2.2.2.2.2.2.1 (qk.mk w.2.2.2.2.2.2.2.1 a.Replica.Log.Image a.Replica.Log.Entries) a.Replica.Votes w.2.2.2.2.2.2.2.2.1 w.2.2.2.2.2.2.2.2.2.1) w.2.2.2.2.2.2.2.2.2.2)
@[reducible] def Jh (a:ze) (b:Int) (g:Int):Option ze:=
 iter (xj g a) FU (IntKind.wrap .i64 (b+1),a.Replica.Me,a.Replica.Of,a.Replica.Mode,a.Replica.View,a.Replica.Normal,a.Replica.Commit,a.Replica.Log.Base,a.Replica.Cell,a.Replica.Nonce,a.outs)
@[reducible] def Ya (a:ze) (f:Int×Int×Int×Int×Int×Int×Int×List qh×Int×Int):Option ze:=
 (Q4<|ze.mk (zb.mk f.1 f.2.1 f.2.2.1 f.2.2.2.1 f.2.2.2.2.1 f.2.2.2.2.2.1 (qk.mk f.2.2.2.2.2.2.1 a.Replica.Log.Image a.Replica.Log.Entries) f.2.2.2.2.2.2.2.1 f.2.2.2.2.2.2.2.2.1 f.2.2.2.2.2.2.2.2.2) a.outs).bind fun h=>(if f.2.2.2.2.2.1 < h then (Jh (ze.mk (zb.mk f.1 f.2.1 f.2.2.1 f.2.2.2.1 f.2.2.2.2.1 h (qk.mk f.2.2.2.2.2.2.1 a.Replica.Log.Image a.Replica.Log.Entries) f.2.2.2.2.2.2.2.1 f.2.2.2.2.2.2.2.2.1 f.2.2.2.2.2.2.2.2.2) a.outs) f.2.2.2.2.2.1 h).bind fun r=>((qW (ze.mk (zb.mk r.Replica.Me r.Replica.Of r.Replica.Mode r.Replica.View r.Replica.Normal r.Replica.Commit r.Replica.Log f.2.2.2.2.2.2.2.1 r.Replica.Cell r.Replica.Nonce) r.outs)<|qg.mk 4 r.Replica.Me r.Replica.View 0 r.Replica.Commit 0 0 0 0 0 (qX.mk 0 0 0)<|qk.mk 0 (zB.mk ([]:List zD) ([]:List zN)) ([]:List zA)).bind fun S=>some (ze.mk (zb.mk S.Replica.Me S.Replica.Of S.Replica.Mode S.Replica.View S.Replica.Normal S.Replica.Commit (qk.mk S.Replica.Log.Base r.Replica.Log.Image r.Replica.Log.Entries) f.2.2.2.2.2.2.2.1 S.Replica.Cell S.Replica.Nonce) S.outs)) else some (ze.mk (zb.mk f.1 f.2.1 f.2.2.1 f.2.2.2.1 f.2.2.2.2.1 h (qk.mk f.2.2.2.2.2.2.1 a.Replica.Log.Image a.Replica.Log.Entries) f.2.2.2.2.2.2.2.1 f.2.2.2.2.2.2.2.2.1 f.2.2.2.2.2.2.2.2.2) a.outs))
@[reducible] def XE (a:ze) (b:qg):Option ze:=
 if ¬a.Replica.Mode=1 then none else (qM a).bind fun n=>(if n=true then if ¬b.View=a.Replica.View then none else (jj a.Replica.Log).bind fun Y=>(if Y < b.Op then none else (jm a 3 b.From).bind fun v35=>(if 0≤v35 then (idx a.Replica.Votes v35).bind fun Z=>((Ya a) (a.Replica.Me,a.Replica.Of,a.Replica.Mode,a.Replica.View,a.Replica.Normal,a.Replica.Commit,a.Replica.Log.Base,a.Replica.Votes.set (Int.toNat v35)<|qh.mk Z.Kind Z.From Z.View Z.Normal (if Z.Op < b.Op then b.Op else Z.Op) Z.Commit Z.Log,a.Replica.Cell,a.Replica.Nonce)) else (jL a<|qh.mk 3 b.From 0 0 b.Op 0<|qk.mk 0 (zB.mk ([]:List zD) ([]:List zN)) ([]:List zA)).bind fun T=>(Ya a) (T.Replica.Me,T.Replica.Of,T.Replica.Mode,T.Replica.View,T.Replica.Normal,T.Replica.Commit,T.Replica.Log.Base,T.Replica.Votes,T.Replica.Cell,T.Replica.Nonce))) else none)
@[reducible] def zaz (a:zb) (b:qg):Option (zb×List jJ):=
 (yz a b 3 (fun k=>XE k b)).bind fun c=>(some (c.1,c.2))
@[reducible] def YR (a:ze) (b:qg):Option ze:=
 (ZA a b).bind fun c=>(if c.1=true then (jj c.2.Replica.Log).bind fun D=>(if D < b.Commit then none else (Ql c.2 b.Commit).bind fun e=>some (ze.mk (zb.mk e.Replica.Me e.Replica.Of e.Replica.Mode e.Replica.View e.Replica.Normal e.Replica.Commit e.Replica.Log c.2.Replica.Votes e.Replica.Cell e.Replica.Nonce) c.2.outs)) else none)
@[reducible] def kr (a:zb) (b:qg):Option (zb×List jJ):=
 (yz a b 4 (fun k=>YR k b)).bind fun c=>(some (c.1,c.2))
@[reducible] def Jq (t3:Int):Option Int:=
 some t3
@[reducible] def xX (a:ze) (b:Int) (W:(Int→Option Int)) (M:((Int×Int)→Option Int)) (I:Int×Int):Option Int:=
 if I.2 < (a.Replica.Votes.length:Int) then (idx a.Replica.Votes I.2).bind fun Y=>(if Y.Kind=b then M (IntKind.wrap .i64 (I.1+1),IntKind.wrap .i64 (I.2+1)) else M (I.1,IntKind.wrap .i64 (I.2+1))) else W I.1
@[reducible] def y9 (a:ze) (b:Int):Option Int:=
 iter (xX a b Jq) FU (0,0)
@[reducible] def JN (a:ze):Option qg:=
 some (qg.mk 6 a.Replica.Me a.Replica.View 0 a.Replica.Commit a.Replica.Normal 0 0 0 0 (qX.mk 0 0 0) a.Replica.Log)
@[reducible] def XN (a:qh) (b:qh):Option Bool:=
 if b.Normal < a.Normal then none else if a.Normal=b.Normal then (jj a.Log).bind fun Q=>((jj b.Log).bind fun l=>some (decide (l < Q))) else none
@[reducible] def xA (t3:Int):Option Int:=
 some t3
@[reducible] def ZS (M:((Int×Int)→Option Int)) (I:(Int×Int)) (t13:Bool):Option Int:=
 if t13=true then M (I.2,IntKind.wrap .i64 (I.2+1)) else M (I.1,IntKind.wrap .i64 (I.2+1))
@[reducible] def XZ (a:List qh) (W:(Int→Option Int)) (M:((Int×Int)→Option Int)) (I:Int×Int):Option Int:=
 if I.2 < (a.length:Int) then (idx a I.2).bind fun Y=>((qj Y.Log).bind fun X=>(if X=true then if Y.Kind=6 then if I.1 < 0 then (ZS M I) true else (idx a I.1).bind fun p=>((XN Y p).bind fun s=>(ZS M I) s) else (ZS M I) false else none)) else W I.1
@[reducible] def kg (a:List qh):Option Int:=
 if 20 < (a.length:Int) then none else iter (XZ a xA) FU ((-1),0)
@[reducible] def Zs (a:ze) (b:Int) (g:qk) (a4:Int):Option ze:=
 (j3 g).bind fun Q=>((jj g).bind fun l=>some (ze.mk (zb.mk a.Replica.Me a.Replica.Of 1 b b (if l < a4 then l else a4) Q ([]:List qh) b a.Replica.Nonce) a.outs))
@[reducible] def Zc (a:ze):Option qg:=
 some (qg.mk 7 a.Replica.Me a.Replica.View 0 a.Replica.Commit 0 0 0 0 0 (qX.mk 0 0 0) a.Replica.Log)
@[reducible] def Jc (a:ze) (i:Int):Option ze:=
 (kg a.Replica.Votes).bind fun n=>((idx a.Replica.Votes n).bind fun D=>(if a.Replica.Of=1 then none else (Zs a a.Replica.View D.Log i).bind fun e=>(Zc<|ze.mk e.Replica a.outs).bind fun q=>(qW (ze.mk e.Replica a.outs)<|qg.mk q.Kind q.From q.View q.Op q.Commit q.Normal q.Nonce q.Client q.Req q.Answer q.Cmd<|qk.mk q.Log.Base e.Replica.Log.Image e.Replica.Log.Entries).bind fun A=>some (ze.mk (zb.mk A.Replica.Me A.Replica.Of A.Replica.Mode A.Replica.View A.Replica.Normal A.Replica.Commit (qk.mk A.Replica.Log.Base e.Replica.Log.Image e.Replica.Log.Entries) e.Replica.Votes A.Replica.Cell A.Replica.Nonce) A.outs)))
@[reducible] def xk (a:ze) (P:(Int→Option ze)) (kb34:((Int×Int)→Option ze)) (s33:Int×Int):Option ze:=
 if s33.2 < ((a.Replica.Votes.length:Nat):Int) then (idx a.Replica.Votes s33.2).bind fun v36=>(if v36.Kind=6 then kb34 ((if s33.1 < v36.Commit then v36.Commit else s33.1),IntKind.wrap .i64 (s33.2+1)) else kb34 (s33.1,IntKind.wrap .i64 (s33.2+1))) else P s33.1
@[reducible] def JP (a:ze):Option ze:=
 iter (xk a<|Jc a) FU (0,0)
@[reducible] def Z2 (i:(Int×Int×Int×Int×Int×Int×Int×List qh×Int×Int×List jJ)) (a:ze) (t4:Bool):Option ze:=
 if t4=true then (JP<|ze.mk (zb.mk i.1 i.2.1 i.2.2.1 i.2.2.2.1 i.2.2.2.2.1 i.2.2.2.2.2.1 (qk.mk i.2.2.2.2.2.2.1 a.Replica.Log.Image a.Replica.Log.Entries) i.2.2.2.2.2.2.2.1 i.2.2.2.2.2.2.2.2.1 i.2.2.2.2.2.2.2.2.2.1) i.2.2.2.2.2.2.2.2.2.2).bind fun h=>(some h) else some (ze.mk (zb.mk i.1 i.2.1 i.2.2.1 i.2.2.2.1 i.2.2.2.2.1 i.2.2.2.2.2.1 (qk.mk i.2.2.2.2.2.2.1 a.Replica.Log.Image a.Replica.Log.Entries) i.2.2.2.2.2.2.2.1 i.2.2.2.2.2.2.2.2.1 i.2.2.2.2.2.2.2.2.2.1) i.2.2.2.2.2.2.2.2.2.2)
@[reducible] def yY (a:ze) (i:Int×Int×Int×Int×Int×Int×Int×List qh×Int×Int×List jJ):Option ze:=
 (qM<|ze.mk (zb.mk i.1 i.2.1 i.2.2.1 i.2.2.2.1 i.2.2.2.2.1 i.2.2.2.2.2.1 (qk.mk i.2.2.2.2.2.2.1 a.Replica.Log.Image a.Replica.Log.Entries) i.2.2.2.2.2.2.2.1 i.2.2.2.2.2.2.2.2.1 i.2.2.2.2.2.2.2.2.2.1) i.2.2.2.2.2.2.2.2.2.2).bind fun e=>(if e=true then (y9 (ze.mk (zb.mk i.1 i.2.1 i.2.2.1 i.2.2.2.1 i.2.2.2.2.1 i.2.2.2.2.2.1 (qk.mk i.2.2.2.2.2.2.1 a.Replica.Log.Image a.Replica.Log.Entries) i.2.2.2.2.2.2.2.1 i.2.2.2.2.2.2.2.2.1 i.2.2.2.2.2.2.2.2.2.1) i.2.2.2.2.2.2.2.2.2.2) 6).bind fun p=>((ym<|ze.mk (zb.mk i.1 i.2.1 i.2.2.1 i.2.2.2.1 i.2.2.2.2.1 i.2.2.2.2.2.1 (qk.mk i.2.2.2.2.2.2.1 a.Replica.Log.Image a.Replica.Log.Entries) i.2.2.2.2.2.2.2.1 i.2.2.2.2.2.2.2.2.1 i.2.2.2.2.2.2.2.2.2.1) i.2.2.2.2.2.2.2.2.2.2).bind fun s=>(Z2 i a) (decide (s < p))) else (Z2 i a) false)
@[reducible] def ZV (a:ze) (P:((Int×Int×Int×Int×Int×Int×Int×List qh×Int×Int×List jJ)→Option ze)) (t22:Bool):Option ze:=
 if t22=true then (jL a<|qh.mk 6 a.Replica.Me a.Replica.View a.Replica.Normal 0 a.Replica.Commit a.Replica.Log).bind fun d=>((qM<|ze.mk (zb.mk d.Replica.Me d.Replica.Of d.Replica.Mode d.Replica.View d.Replica.Normal d.Replica.Commit (qk.mk d.Replica.Log.Base a.Replica.Log.Image a.Replica.Log.Entries) d.Replica.Votes d.Replica.Cell d.Replica.Nonce) a.outs).bind fun v39=>(if v39=true then P (d.Replica.Me,d.Replica.Of,d.Replica.Mode,d.Replica.View,d.Replica.Normal,d.Replica.Commit,d.Replica.Log.Base,d.Replica.Votes,d.Replica.Cell,d.Replica.Nonce,a.outs) else if ¬d.Replica.Of=0 then (JN<|ze.mk (zb.mk d.Replica.Me d.Replica.Of d.Replica.Mode d.Replica.View d.Replica.Normal d.Replica.Commit (qk.mk d.Replica.Log.Base a.Replica.Log.Image a.Replica.Log.Entries) d.Replica.Votes d.Replica.Cell d.Replica.Nonce) a.outs).bind fun K=>((jh (ze.mk (zb.mk d.Replica.Me d.Replica.Of d.Replica.Mode d.Replica.View d.Replica.Normal d.Replica.Commit (qk.mk d.Replica.Log.Base a.Replica.Log.Image a.Replica.Log.Entries) d.Replica.Votes d.Replica.Cell d.Replica.Nonce) a.outs) (Int.tmod d.Replica.View d.Replica.Of)<|qg.mk K.Kind K.From K.View K.Op K.Commit K.Normal K.Nonce K.Client K.Req K.Answer K.Cmd<|qk.mk K.Log.Base a.Replica.Log.Image a.Replica.Log.Entries).bind fun U=>P (U.Replica.Me,U.Replica.Of,U.Replica.Mode,U.Replica.View,U.Replica.Normal,U.Replica.Commit,U.Replica.Log.Base,d.Replica.Votes,U.Replica.Cell,U.Replica.Nonce,U.outs)) else none)) else P (a.Replica.Me,a.Replica.Of,a.Replica.Mode,a.Replica.View,a.Replica.Normal,a.Replica.Commit,a.Replica.Log.Base,a.Replica.Votes,a.Replica.Cell,a.Replica.Nonce,a.outs)
@[reducible] def Zq (a:ze):Option ze:=
 (y9 a 5).bind fun v59=>((ym a).bind fun v61=>(if v61≤v59 then (jm a 6 a.Replica.Me).bind fun v64=>((ZV a<|yY a)<|decide (v64 < 0)) else (ZV a<|yY a) false))
@[reducible] def Z3 (a:ze) (b:Int):Option ze:=
 (qW (ze.mk (zb.mk a.Replica.Me a.Replica.Of 2 b a.Replica.Normal a.Replica.Commit a.Replica.Log ([]:List qh) b a.Replica.Nonce) a.outs)<|qg.mk 5 a.Replica.Me b 0 0 0 0 0 0 0 (qX.mk 0 0 0)<|qk.mk 0 (zB.mk ([]:List zD) ([]:List zN)) ([]:List zA)).bind fun e=>((Zq<|ze.mk (zb.mk e.Replica.Me e.Replica.Of e.Replica.Mode e.Replica.View e.Replica.Normal e.Replica.Commit (qk.mk e.Replica.Log.Base a.Replica.Log.Image a.Replica.Log.Entries) ([]:List qh) e.Replica.Cell e.Replica.Nonce) e.outs).bind fun q=>some q)
@[reducible] def Zb (b:Int) (t:Int×Int×Int×Int×Int×Int×Int×List zD×List zN×List zA×List qh×Int×Int×List jJ):Option (Bool×ze):=
 if t.2.2.1=2 then some (decide (b=t.2.2.2.1),ze.mk (zb.mk t.1 t.2.1 t.2.2.1 t.2.2.2.1 t.2.2.2.2.1 t.2.2.2.2.2.1 (qk.mk t.2.2.2.2.2.2.1 (zB.mk t.2.2.2.2.2.2.2.1 t.2.2.2.2.2.2.2.2.1) t.2.2.2.2.2.2.2.2.2.1) t.2.2.2.2.2.2.2.2.2.2.1 t.2.2.2.2.2.2.2.2.2.2.2.1 t.2.2.2.2.2.2.2.2.2.2.2.2.1) t.2.2.2.2.2.2.2.2.2.2.2.2.2) else some (false,ze.mk (zb.mk t.1 t.2.1 t.2.2.1 t.2.2.2.1 t.2.2.2.2.1 t.2.2.2.2.2.1 (qk.mk t.2.2.2.2.2.2.1 (zB.mk t.2.2.2.2.2.2.2.1 t.2.2.2.2.2.2.2.2.1) t.2.2.2.2.2.2.2.2.2.1) t.2.2.2.2.2.2.2.2.2.2.1 t.2.2.2.2.2.2.2.2.2.2.2.1 t.2.2.2.2.2.2.2.2.2.2.2.2.1) t.2.2.2.2.2.2.2.2.2.2.2.2.2)
@[reducible] def ZF (a:ze) (b:Int):Option (Bool×ze):=
 (ju a).bind fun c=>(if c=true then if a.Replica.View < b then (Z3 a b).bind fun h=>((Zb b) (h.Replica.Me,h.Replica.Of,h.Replica.Mode,h.Replica.View,h.Replica.Normal,h.Replica.Commit,h.Replica.Log.Base,h.Replica.Log.Image.Cells,h.Replica.Log.Image.Seats,h.Replica.Log.Entries,h.Replica.Votes,h.Replica.Cell,h.Replica.Nonce,h.outs)) else (Zb b) (a.Replica.Me,a.Replica.Of,a.Replica.Mode,a.Replica.View,a.Replica.Normal,a.Replica.Commit,a.Replica.Log.Base,a.Replica.Log.Image.Cells,a.Replica.Log.Image.Seats,a.Replica.Log.Entries,a.Replica.Votes,a.Replica.Cell,a.Replica.Nonce,a.outs) else none)
@[reducible] def km (a:ze) (b:qg):Option ze:=
 (ZF a b.View).bind fun c=>(if c.1=true then (jm c.2 5 b.From).bind fun D=>(if D < 0 then (jL c.2<|qh.mk 5 b.From b.View 0 0 0<|qk.mk 0 (zB.mk ([]:List zD) ([]:List zN)) ([]:List zA)).bind fun G=>((Zq<|ze.mk (zb.mk G.Replica.Me G.Replica.Of G.Replica.Mode G.Replica.View G.Replica.Normal G.Replica.Commit (qk.mk G.Replica.Log.Base c.2.Replica.Log.Image c.2.Replica.Log.Entries) G.Replica.Votes G.Replica.Cell G.Replica.Nonce) c.2.outs).bind fun j=>some j) else none) else some c.2)
@[reducible] def XC (a:zb) (b:qg):Option (zb×List jJ):=
 (yz a b 5 (fun k=>km k b)).bind fun c=>(some (c.1,c.2))
@[reducible] def J5 (F:(ze→Option ze)) (l:zb) (t12:Bool):Option (zb×List jJ):=
 if t12=true then (F<|ze.mk l ([]:List jJ)).bind fun e=>(some (e.Replica,e.outs)) else none
@[reducible] def XJ (a:zb) (b:qg) (g:Int) (F:ze→Option ze):Option (zb×List jJ):=
 (qN a).bind fun n=>(if n=true then (jP a).bind fun l=>((jH b).bind fun m=>(if m=true then if b.Kind=g then (jD g).bind fun p=>((Zz p 70).bind fun s=>(if s=true then (qi b.From 0<|IntKind.wrap .i64 (a.Of - 1)).bind fun j=>(if j=true then (J5 F l) (decide (¬b.From=a.Me)) else none) else (J5 F l) (decide (b.Kind=g)))) else none else none)) else none)
@[reducible] def YW (a:ze) (b:qg) (t9:Bool):Option ze:=
 if t9=true then (Zc a).bind fun x=>((jh a b.From<|qg.mk x.Kind x.From x.View x.Op x.Commit x.Normal x.Nonce x.Client x.Req x.Answer x.Cmd<|qk.mk x.Log.Base a.Replica.Log.Image a.Replica.Log.Entries).bind fun J=>some (ze.mk (zb.mk J.Replica.Me J.Replica.Of J.Replica.Mode J.Replica.View J.Replica.Normal J.Replica.Commit (qk.mk J.Replica.Log.Base a.Replica.Log.Image a.Replica.Log.Entries) a.Replica.Votes J.Replica.Cell J.Replica.Nonce) J.outs)) else (ZF a b.View).bind fun o=>(if o.1=true then (jm o.2 6 b.From).bind fun A=>(if A < 0 then (jL o.2<|qh.mk 6 b.From b.View b.Normal 0 b.Commit b.Log).bind fun V=>((Zq<|ze.mk (zb.mk V.Replica.Me V.Replica.Of V.Replica.Mode V.Replica.View V.Replica.Normal V.Replica.Commit (qk.mk V.Replica.Log.Base o.2.Replica.Log.Image o.2.Replica.Log.Entries) V.Replica.Votes V.Replica.Cell V.Replica.Nonce) o.2.outs).bind fun v48=>some v48) else none) else none)
@[reducible] def XM (a:ze) (b:qg) (g:zb):Option ze:=
 (ju a).bind fun n=>(if n=true then if ¬a.Replica.Of=0 then if ¬a.Replica.Me=(Int.tmod b.View a.Replica.Of) then none else if g.Mode=1 then (YW a b) (decide (g.View=b.View)) else (YW a b) false else none else none)
@[reducible] def zaL (a:zb) (b:qg):Option (zb×List jJ):=
 (XJ a b 6 (fun k=>XM k b a)).bind fun c=>(some (c.1,c.2))
@[reducible] def xv (a:ze) (b:qg):Option ze:=
 if a.Replica.View < b.View then none else if b.View=a.Replica.View then (ju a).bind fun Q=>(if Q=true then if ¬a.Replica.Of=0 then if ¬b.From=(Int.tmod b.View a.Replica.Of) then none else if a.Replica.Mode=2 then (Zs a b.View b.Log (if b.Commit < a.Replica.Commit then a.Replica.Commit else b.Commit)).bind fun j=>((Jx (ze.mk j.Replica a.outs) b.From).bind fun o=>some (ze.mk (zb.mk o.Replica.Me o.Replica.Of o.Replica.Mode o.Replica.View o.Replica.Normal o.Replica.Commit o.Replica.Log j.Replica.Votes o.Replica.Cell o.Replica.Nonce) o.outs)) else some a else none else none) else none
@[reducible] def kZ (a:zb) (b:qg):Option (zb×List jJ):=
 (yz a b 7 (fun k=>xv k b)).bind fun c=>(some (c.1,c.2))
@[reducible] def Yp (a:ze) (b:qg):Option ze:=
 if a.Replica.Mode=1 then (jh a b.From<|qg.mk 9 a.Replica.Me a.Replica.View 0 a.Replica.Commit 0 b.Nonce 0 0 0 (qX.mk 0 0 0) a.Replica.Log).bind fun B=>(some<|ze.mk (zb.mk B.Replica.Me B.Replica.Of B.Replica.Mode B.Replica.View B.Replica.Normal B.Replica.Commit (qk.mk B.Replica.Log.Base a.Replica.Log.Image a.Replica.Log.Entries) a.Replica.Votes B.Replica.Cell B.Replica.Nonce) B.outs) else none
@[reducible] def xG (a:zb) (b:qg):Option (zb×List jJ):=
 (yz a b 8 (fun k=>Yp k b)).bind fun c=>(some (c.1,c.2))
@[reducible] def Qd (a:ze) (i:Int):Option ze:=
 if ¬a.Replica.Of=0 then (jm a 9<|Int.tmod i a.Replica.Of).bind fun Q=>((y9 a 9).bind fun l=>(ym a).bind fun m=>(if l≤m then some a else if i < a.Replica.Cell then none else if Q < 0 then none else (idx a.Replica.Votes Q).bind fun v=>(if ¬v.View=i then none else (Zs a i v.Log v.Commit).bind fun v29=>some (ze.mk v29.Replica a.outs)))) else none
@[reducible] def J4 (a:ze) (P:(Int→Option ze)) (kb32:((Int×Int)→Option ze)) (s31:Int×Int):Option ze:=
 if s31.2 < ((a.Replica.Votes.length:Nat):Int) then (idx a.Replica.Votes s31.2).bind fun v34=>(if v34.Kind=9 then kb32 ((if s31.1 < v34.View then v34.View else s31.1),IntKind.wrap .i64 (s31.2+1)) else none) else P s31.1
@[reducible] def Qo (a:ze):Option ze:=
 iter (J4 a<|Qd a) FU (0,0)
@[reducible] def kh (a:ze) (b:qg):Option ze:=
 if ¬a.Replica.Mode=3 then none else if ¬b.Nonce=a.Replica.Nonce then none else (j3 b.Log).bind fun Q=>((jm a 9 b.From).bind fun l=>(if l < 0 then (jL a<|qh.mk 9 b.From b.View 0 0 b.Commit Q).bind fun C=>((Qo<|ze.mk (zb.mk C.Replica.Me C.Replica.Of C.Replica.Mode C.Replica.View C.Replica.Normal C.Replica.Commit (qk.mk C.Replica.Log.Base a.Replica.Log.Image a.Replica.Log.Entries) C.Replica.Votes C.Replica.Cell C.Replica.Nonce) a.outs).bind fun v24=>some v24) else none))
@[reducible] def XH (a:zb) (b:qg):Option (zb×List jJ):=
 (yz a b 9 (fun k=>kh k b)).bind fun c=>(some (c.1,c.2))
@[reducible] def KB (a:zb) (b:qg):Option (zb×List jJ):=
 if b.Kind=1 then (xm a b).bind fun n=>(some (n.1,n.2)) else if b.Kind=2 then (xp a b).bind fun l=>(some (l.1,l.2)) else if b.Kind=3 then (zaz a b).bind fun X=>(some (X.1,X.2)) else if b.Kind=4 then (kr a b).bind fun h=>(some (h.1,h.2)) else if b.Kind=5 then (XC a b).bind fun B=>(some (B.1,B.2)) else if b.Kind=6 then (zaL a b).bind fun r=>(some (r.1,r.2)) else if b.Kind=7 then (kZ a b).bind fun C=>(some (C.1,C.2)) else if b.Kind=8 then (xG a b).bind fun z=>(some (z.1,z.2)) else if b.Kind=9 then (XH a b).bind fun o=>(some (o.1,o.2)) else none
@[reducible] def kl (i:List Int):Option (List Int):=
 some i
@[reducible] def Yc (a:List Int) (P:(List Int→Option (List Int))) (kb5:((List Int×Int)→Option (List Int))) (w:List Int×Int):Option (List Int):=
 if w.2 < (a.length:Int) then (idx a w.2).bind fun l=>(if l < 0 then none else (yy l).bind fun X=>(if (w.1++X).length≤2147483648 then kb5 (w.1++X,IntKind.wrap .i64 (w.2+1)) else none)) else P w.1
def Jf(a:List Int):Option (List Int):=
 iter (Yc a kl) FU (([]:List Int),0)
@[reducible] def Jz (f:List Int):Option (List Int×Bool):=
 (Jf f).bind fun g=>(some (g,true))
@[reducible] def Jy (a:qk) (d:(List Int→Option (List Int×Bool))) (e:((List Int×Int)→Option (List Int×Bool))) (c:List Int×Int):Option (List Int×Bool):=
 if c.2 < (a.Entries.length:Int) then (idx a.Entries c.2).bind fun b=>(if (c.1++([b.Client,b.Req,b.Cmd.Kind,b.Cmd.Key,b.Cmd.Value])).length≤2147483648 then e (c.1++([b.Client,b.Req,b.Cmd.Kind,b.Cmd.Key,b.Cmd.Value]),IntKind.wrap .i64 (c.2+1)) else none) else d c.1
@[reducible] def Yb (a:qk) (n:Unit):Option (List Int×Bool):=
 if ((([a.Base,(a.Image.Cells.length:Int)])++([(a.Image.Seats.length:Int)]))++([(a.Entries.length:Int)])).length≤2147483648 then iter (Jy a Jz) FU ((([a.Base,(a.Image.Cells.length:Int)])++([(a.Image.Seats.length:Int)]))++([(a.Entries.length:Int)]),0) else none
@[reducible] def xr (a:qk) (h:(Unit→Option (List Int×Bool))) (j:(Unit→Option (List Int×Bool))) (l:Unit):Option (List Int×Bool):=
 if 0 < (a.Image.Seats.length:Int) then none else h ()
@[reducible] def Yg (a:qk) (o:Unit):Option (List Int×Bool):=
 if (([a.Base,(a.Image.Cells.length:Int)])++([(a.Image.Seats.length:Int)])).length≤2147483648 then iter (xr a<|Yb a) FU () else none
@[reducible] def xE (a:qk) (i:(Unit→Option (List Int×Bool))) (k:(Unit→Option (List Int×Bool))) (m:Unit):Option (List Int×Bool):=
 if 0 < (a.Image.Cells.length:Int) then none else i ()
def Q7(b:qk):Option (List Int×Bool):=
 (qj b).bind fun l=>(if l=true then iter (xE b<|Yg b) FU () else none)
@[reducible] def J6 (m:List Int):Option (List Int×Bool):=
 (Jt m).bind fun e=>(some (e.1,e.2))
@[reducible] def JE (j:ByteArray) (b:qg) (f:(List Int→Option (List Int×Bool))) (c:((List Int×Int)→Option (List Int×Bool))) (a:List Int×Int):Option (List Int×Bool):=
 if a.2 < (j.size:Int) then (sidx j a.2).bind fun d=>(if d=120 then (Jf<|[b.Cmd.Kind,b.Cmd.Key,b.Cmd.Value]).bind fun g=>(if (a.1++g).length≤2147483648 then c (a.1++g,IntKind.wrap .i64 (a.2+1)) else none) else if d=76 then (Q7 b.Log).bind fun h=>(if (a.1++h.1).length≤2147483648 then c (a.1++h.1,IntKind.wrap .i64 (a.2+1)) else none) else if d=65 then none else (sidx j a.2).bind fun k=>(yy<|zf4 k b.From b.View b.Op b.Commit b.Normal b.Nonce b.Client b.Req b.Answer).bind fun i=>(if (a.1++i).length≤2147483648 then c (a.1++i,IntKind.wrap .i64 (a.2+1)) else none)) else f a.1
def Zy(a:qg):Option (List Int×Bool):=
 (jH a).bind fun r=>(if r=true then (yy a.Kind).bind fun g=>((jD a.Kind).bind fun o=>iter (JE o a J6) FU (g,0)) else none)
@[reducible] def KK (a:Yk) (b:Int) (w:ByteArray):Option (Yk×Int):=
 (Jo a).bind fun p=>(if ((p.List.length:Nat):Int)=60 then none else if p.Next=1000000000 then none else if (p.List++([z5.mk p.Next b w])).length≤2147483648 then some (Yk.mk (IntKind.wrap .i64 (p.Next+1)) (p.List++([z5.mk p.Next b w])),0) else none)
@[reducible] def kV (b:List jJ) (a:zr) (t:((Int×Int×List z5×List zN)→Option zr)) (j:Int×Int×List z5×List zN):Option zr:=
 if j.1 < (b.length:Int) then (idx b j.1).bind fun l=>(if l.To=(-1) then if ((j.2.2.2.length:Nat):Int) < 200 then if (j.2.2.2++([zN.mk l.Msg.Client l.Msg.Req l.Msg.Answer])).length≤2147483648 then t (IntKind.wrap .i64 (j.1+1),j.2.1,j.2.2.1,j.2.2.2++([zN.mk l.Msg.Client l.Msg.Req l.Msg.Answer])) else none else none else (Zy l.Msg).bind fun s=>(if 0 < (s.1.length:Int) then if (s.1.length:Int)≤4100 then (KK (Yk.mk j.2.1 j.2.2.1) l.To<|KT s.1).bind fun q=>(t (IntKind.wrap .i64 (j.1+1),q.1.Next,q.1.List,j.2.2.2)) else none else none)) else some (zr.mk a.Of a.Replicas (Yk.mk j.2.1 j.2.2.1) j.2.2.2)
@[reducible] def QO (a:zr) (b:List jJ):Option zr:=
 iter (kV b a) FU (0,a.Net.Next,a.Net.List,a.Replies)
@[reducible] def QP (a:zr) (b:Int) (w:qg):Option zr:=
 (idx a.Replicas b).bind fun p=>(if p.Mode=0 then none else (KB p w).bind fun o=>(QO (zr.mk a.Of (a.Replicas.set (Int.toNat b) o.1) a.Net a.Replies) o.2).bind fun k=>some (zr.mk k.Of (a.Replicas.set (Int.toNat b) o.1) k.Net k.Replies))
@[reducible] def Q0 (a:zr) (b:Int):Option (Bool×zr):=
 (kP a.Net b).bind fun i=>(if ¬i.2.2=0 then none else (Zk<|Zn i.2.1.Bytes).bind fun l=>(if l.2=0 then (QP (zr.mk a.Of a.Replicas i.1 a.Replies) i.2.1.To l.1).bind fun m=>(some (true,m)) else none))
@[reducible] def zan (a:zb):Option (zb×List jJ):=
 (qN a).bind fun r=>(if r=true then (jP a).bind fun g=>((ju<|ze.mk g ([]:List jJ)).bind fun o=>(if o=true then if g.View < 1000000000 then (Z3 (ze.mk g ([]:List jJ))<|IntKind.wrap .i64 (g.View+1)).bind fun u=>(some (u.Replica,u.outs)) else none else none)) else none)
@[reducible] def Q5 (a:zb):Option Bool:=
 if a.Mode=1 then some true else none
@[reducible] def zak (B:Int):Option Int:=
 some B
@[reducible] def zcK (a:zr) (x:(Int→Option Int)) (y:((Int×Int)→Option Int)) (v:Int×Int):Option Int:=
 if v.2 < (a.Replicas.length:Int) then (idx a.Replicas v.2).bind fun o=>((Q5 o).bind fun m=>(if m=true then y (IntKind.wrap .i64 (v.1+1),IntKind.wrap .i64 (v.2+1)) else none)) else x v.1
@[reducible] def Kt (a:zr):Option Int:=
 iter (zcK a zak) FU (0,0)
@[reducible] def Kk (a:zb):Option zb:=
 (qN a).bind fun r=>(if r=true then if a.Mode=0 then none else some (zb.mk a.Me a.Of 0 0 0 0 (qk.mk 0 (zB.mk ([]:List zD) ([]:List zN)) ([]:List zA)) ([]:List qh) a.Cell a.Nonce) else none)
@[reducible] def k7 (a:zb):Option (zb×List jJ):=
 (qN a).bind fun r=>(if r=true then (jP a).bind fun g=>(if g.Mode=0 then if g.Nonce < 1000000000 then (qW (ze.mk (zb.mk g.Me g.Of 3 g.View g.Normal g.Commit g.Log g.Votes g.Cell<|IntKind.wrap .i64 (g.Nonce+1)) ([]:List jJ))<|qg.mk 8 g.Me 0 0 0 0 (IntKind.wrap .i64 (g.Nonce+1)) 0 0 0 (qX.mk 0 0 0)<|qk.mk 0 (zB.mk ([]:List zD) ([]:List zN)) ([]:List zA)).bind fun h=>(some (zb.mk h.Replica.Me h.Replica.Of h.Replica.Mode h.Replica.View h.Replica.Normal h.Replica.Commit (qk.mk h.Replica.Log.Base g.Log.Image g.Log.Entries) g.Votes h.Replica.Cell h.Replica.Nonce,h.outs)) else none else none) else none)
@[reducible] def yk (a:zr) (b:TGo) (c:List jJ×Int×Int×Int×Int×Int×Int×Int×List zD×List zN×List zA×List qh×Int×Int):Option (Bool×zr):=
 (idx a.Replicas b.At).bind fun o=>((QO (zr.mk a.Of (a.Replicas.set (Int.toNat b.At)<|zb.mk c.2.1 c.2.2.1 c.2.2.2.1 c.2.2.2.2.1 c.2.2.2.2.2.1 c.2.2.2.2.2.2.1 (qk.mk c.2.2.2.2.2.2.2.1 (zB.mk c.2.2.2.2.2.2.2.2.1 c.2.2.2.2.2.2.2.2.2.1) c.2.2.2.2.2.2.2.2.2.2.1) c.2.2.2.2.2.2.2.2.2.2.2.1 c.2.2.2.2.2.2.2.2.2.2.2.2.1 c.2.2.2.2.2.2.2.2.2.2.2.2.2) a.Net a.Replies) c.1).bind fun k=>some (true,zr.mk k.Of (a.Replicas.set (Int.toNat b.At)<|zb.mk c.2.1 c.2.2.1 c.2.2.2.1 c.2.2.2.2.1 c.2.2.2.2.2.1 c.2.2.2.2.2.2.1 (qk.mk c.2.2.2.2.2.2.2.1 (zB.mk c.2.2.2.2.2.2.2.2.1 c.2.2.2.2.2.2.2.2.2.1) c.2.2.2.2.2.2.2.2.2.2.1) c.2.2.2.2.2.2.2.2.2.2.2.1 c.2.2.2.2.2.2.2.2.2.2.2.2.1 c.2.2.2.2.2.2.2.2.2.2.2.2.2) k.Net k.Replies))
@[reducible] def Jp (a:zr) (b:TGo):Option (Bool×zr):=
 (idx a.Replicas b.At).bind fun i=>(if b.Kind=1 then (QP a b.At<|qg.mk 1 0 0 0 0 0 0 b.Client b.Req 0 b.Cmd<|qk.mk 0 (zB.mk ([]:List zD) ([]:List zN)) ([]:List zA)).bind fun q=>(some (true,q)) else if b.Kind=7 then (zan i).bind fun d=>((yk a b) (d.2,d.1.Me,d.1.Of,d.1.Mode,d.1.View,d.1.Normal,d.1.Commit,d.1.Log.Base,d.1.Log.Image.Cells,d.1.Log.Image.Seats,d.1.Log.Entries,d.1.Votes,d.1.Cell,d.1.Nonce)) else if b.Kind=8 then none else if b.Kind=9 then (Kt a).bind fun z=>((Q5 i).bind fun A=>(if A=true then if i.Mode=0 then none else if (IntKind.wrap .i64 (z - 1))≤(IntKind.wrap .i64<|Int.tdiv (IntKind.wrap .i64 (a.Of - 1)) 2) then none else (Kk i).bind fun f=>((yk a b) (([]:List jJ),f.Me,f.Of,f.Mode,f.View,f.Normal,f.Commit,f.Log.Base,f.Log.Image.Cells,f.Log.Image.Seats,f.Log.Entries,f.Votes,f.Cell,f.Nonce)) else none)) else if ¬i.Mode=0 then none else (k7 i).bind fun e=>(yk a b) (e.2,e.1.Me,e.1.Of,e.1.Mode,e.1.View,e.1.Normal,e.1.Commit,e.1.Log.Base,e.1.Log.Image.Cells,e.1.Log.Image.Seats,e.1.Log.Entries,e.1.Votes,e.1.Cell,e.1.Nonce))
@[reducible] def J8 (c:Bool×Int×List zb×Int×List z5×List zN):Option (zr×Int):=
 if c.1=true then some (zr.mk c.2.1 c.2.2.1 (Yk.mk c.2.2.2.1 c.2.2.2.2.1) c.2.2.2.2.2,0) else none
@[reducible] def k8 (a:zr) (b:TGo):Option (zr×Int):=
 (xB a).bind fun i=>(if b.Kind=2 then (Q0 i b.At).bind fun m=>(J8 (m.1,m.2.Of,m.2.Replicas,m.2.Net.Next,m.2.Net.List,m.2.Replies)) else if b.Kind=3 then none else if b.Kind=4 then none else if b.Kind=5 then none else if b.Kind=6 then none else if b.At < a.Of then (Jp i b).bind fun n=>(J8 (n.1,n.2.Of,n.2.Replicas,n.2.Net.Next,n.2.Net.List,n.2.Replies)) else none)
@[reducible] def zo (a:zr) (b:TGo):Option (zr×Int):=
 (Qe a).bind fun i=>(if i=true then (zar b).bind fun l=>(if l=true then (k8 a b).bind fun m=>(some (m.1,m.2)) else none) else none)
def jg(a:Int×List zb×Int×List z5×List zN):Option zr:=
 some (zr.mk a.1 a.2.1 (Yk.mk a.2.2.1 a.2.2.2.1) a.2.2.2.2)
def qQ(c:(Int×List zb×Int×List z5×List zN)→Option zr)(d:(Int×Int×List zb×Int×List z5×List zN)→Option zr)(a:Int×Int×List zb×Int×List z5×List zN):Option zr:=
 if a.1 < 200 then if 0 < (a.2.2.2.2.1.length:Int) then (zo (zr.mk a.2.1 a.2.2.1 (Yk.mk a.2.2.2.1 a.2.2.2.2.1) a.2.2.2.2.2)<|TGo.mk 2 0 0 0 0<|qX.mk 0 0 0).bind fun b=>(if ¬b.2=0 then none else d (IntKind.wrap .i64 (a.1+1),b.1.Of,b.1.Replicas,b.1.Net.Next,b.1.Net.List,b.1.Replies)) else c (a.2.1,a.2.2.1,a.2.2.2.1,a.2.2.2.2.1,a.2.2.2.2.2) else none
def jF(a:zr):Option zr:=
 iter (qQ jg) FU (0,a.Of,a.Replicas,a.Net.Next,a.Net.List,a.Replies)
@[reducible] def Je (a:Int) (b:Int) (c:Int):Option Bool:=
 if b≤a then some (decide (a≤c)) else none
@[reducible] def qT (a:Int):Option Bool:=
 (Je a 0 1000000000).bind fun d=>(some d)
def Qz(a:Unit):Option Bool:=
 some true
def Ye(b:zB)(a:Unit→Option Bool)(c:Unit→Option Bool)(d:Unit):Option Bool:=
 if 0 < (b.Seats.length:Int) then none else a ()
def Qv(a:zB)(b:Unit):Option Bool:=
 iter (Ye a Qz) FU ()
def JD(b:zB)(d:Unit→Option Bool)(c:Int→Option Bool)(a:Int):Option Bool:=
 if a < (b.Cells.length:Int) then (idx b.Cells a).bind fun e=>((qT e.Key).bind fun f=>(if f=true then (idx b.Cells a).bind fun g=>((qT g.Value).bind fun h=>(if h=true then if 0 < a then none else c (IntKind.wrap .i64 (a+1)) else none)) else none)) else d ()
@[reducible] def yO (b:zB):Option Bool:=
 if 40 < (b.Cells.length:Int) then none else if 10 < (b.Seats.length:Int) then none else iter (JD b<|Qv b) FU 0
def Jm(c:qX)(a:Bool):Option Bool:=
 if a=true then (qT c.Key).bind fun b=>(if b=true then some (decide (c.Value=0)) else none) else none
def JW(a:qX)(b:Bool):Option Bool:=
 if b=true then (qT a.Key).bind fun c=>(if c=true then (qT a.Value).bind fun d=>(some d) else none) else if a.Kind=1 then (Jm a) true else (Jm a) (decide (a.Kind=4))
@[reducible] def Y8 (a:qX):Option Bool:=
 if a.Kind=2 then (JW a) true else (JW a) (decide (a.Kind=3))
@[reducible] def J2 (a:zB):Option zB:=
 if a.Cells.length≤2147483648 then if a.Seats.length≤2147483648 then some a else none else none
def Q3(a:Unit):Option Int:=
 some (-1)
def YV(a:zB)(c:Int)(d:Unit→Option Int)(e:Int→Option Int)(b:Int):Option Int:=
 if b < (a.Cells.length:Int) then (idx a.Cells b).bind fun f=>(if f.Key=c then (idx a.Cells b).bind fun g=>(some g.Value) else e (IntKind.wrap .i64 (b+1))) else d ()
@[reducible] def ZY (a:zB) (c:Int):Option Int:=
 (yO a).bind fun h=>(if h=true then iter (YV a c Q3) FU 0 else none)
def yW(b:Int)(c:Int)(a:List zD×Bool):Option (List zD):=
 if a.2=true then some a.1 else if (a.1++([zD.mk b c])).length≤2147483648 then some (a.1++([zD.mk b c])) else none
def yo(f:List zD)(d:List zD×Bool×Int)(g:Int)(b:(List zD×Bool×Int)→Option (List zD))(a:List zD×Bool):Option (List zD):=
 (idx f d.2.2).bind fun e=>(if ¬e.Key=g then (idx f d.2.2).bind fun c=>(if (a.1++([c])).length≤2147483648 then b (a.1++([c]),a.2,IntKind.wrap .i64 (d.2.2+1)) else none) else b (a.1,a.2,IntKind.wrap .i64 (d.2.2+1)))
def Zj(b:List zD×Bool×Int)(d:Int)(e:Int)(a:(List zD×Bool)→Option (List zD))(c:Bool):Option (List zD):=
 if c=true then if (b.1++([zD.mk d e])).length≤2147483648 then a (b.1++([zD.mk d e]),true) else none else a (b.1,b.2.1)
def ZJ(b:List zD)(a:Int)(e:Int)(f:(List zD×Bool)→Option (List zD))(d:(List zD×Bool×Int)→Option (List zD))(c:List zD×Bool×Int):Option (List zD):=
 if c.2.2 < (b.length:Int) then if c.2.1=true then (Zj c a e<|yo b c a d) false else (idx b c.2.2).bind fun g=>((Zj c a e<|yo b c a d)<|decide (a≤g.Key)) else f (c.1,c.2.1)
@[reducible] def qP (b:List zD) (a:Int) (e:Int) (h:Bool):Option (List zD):=
 iter (ZJ b a e<|yW a e) FU (([]:List zD),!h,0)
@[reducible] def Qq (b:Int) (a:Int):Option Int:=
 if a < b then some b else some a
def qL(d:zB)(e:zB)(f:qX)(a:Int)(b:Bool):Option (zB×Int):=
 if b=true then some (d,(-1)) else (qP e.Cells f.Key a true).bind fun c=>(some (zB.mk c d.Seats,a))
def qS(j:zB)(a:zB)(g:qX)(f:Int)(h:Int):Option (zB×Int):=
 if 1000000000 < h then (qL j a g h) true else if f < 0 then (qL j a g h) (decide ((a.Cells.length:Int)=40)) else (qL j a g h) false
@[reducible] def z7 (a:zB) (g:qX):Option (zB×Int):=
 (yO a).bind fun z=>(if z=true then (Y8 g).bind fun A=>(if A=true then (J2 a).bind fun j=>((ZY a g.Key).bind fun f=>(if g.Kind=1 then some (j,f) else if g.Kind=4 then (qP a.Cells g.Key 0 false).bind fun k=>(some (zB.mk k j.Seats,f)) else if g.Kind=3 then (Qq f 0).bind fun r=>((qS j a g f)<|IntKind.wrap .i64 (g.Value+r)) else (qS j a g f) g.Value)) else none) else none)
@[reducible] def Y2 (a:zr):Option Int:=
 (Qe a).bind fun n=>(if n=true then (Kt a).bind fun B=>(some B) else none)
@[reducible] def Yz (y:Unit):Option Bool:=
 some true
@[reducible] def JR (d:(Int→Option Bool)) (e:Int) (C:Unit):Option Bool:=
 d (IntKind.wrap .i64 (e+1))
@[reducible] def ky (i:List zb) (b:zb) (o:(Unit→Option Bool)) (p:(Int→Option Bool)) (l:Int):Option Bool:=
 if l < (i.length:Int) then (idx i l).bind fun c=>((Q5 b).bind fun s=>(if s=true then (Q5 c).bind fun k=>(if k=true then if (if c.Commit < b.Commit then c.Commit else b.Commit) < b.Log.Base then none else if (if c.Commit < b.Commit then c.Commit else b.Commit) < c.Log.Base then none else (Ju b.Log (if c.Commit < b.Commit then c.Commit else b.Commit)).bind fun t=>((Ju c.Log (if c.Commit < b.Commit then c.Commit else b.Commit)).bind fun u=>(Jw t u).bind fun v=>(if v=true then p (IntKind.wrap .i64 (l+1)) else none)) else none) else none)) else o ()
@[reducible] def kW (a:zr) (m:(Unit→Option Bool)) (d:(Int→Option Bool)) (e:Int):Option Bool:=
 if e < (a.Replicas.length:Int) then (idx a.Replicas e).bind fun b=>((cut a.Replicas 0 e).bind fun i=>iter (ky i b<|JR d e) FU 0) else m ()
@[reducible] def QU (a:zr):Option Bool:=
 (Qe a).bind fun n=>(if n=true then iter (kW a Yz) FU 0 else none)
@[reducible] def Yn (y:Int):Option Int:=
 some y
@[reducible] def Z6 (d:((Int×Int)→Option Int)) (e:(Int×Int)) (w:Bool):Option Int:=
 if w=true then d (e.2,IntKind.wrap .i64 (e.2+1)) else d (e.1,IntKind.wrap .i64 (e.2+1))
@[reducible] def kM (a:zr) (m:(Int→Option Int)) (d:((Int×Int)→Option Int)) (e:Int×Int):Option Int:=
 if e.2 < (a.Replicas.length:Int) then (idx a.Replicas e.2).bind fun q=>((Q5 q).bind fun x=>(if x=true then if e.1 < 0 then (Z6 d e) true else (idx a.Replicas e.1).bind fun c=>((Z6 d e)<|decide (c.Commit < q.Commit)) else none)) else m e.1
@[reducible] def QN (a:zr):Option Int:=
 (Qe a).bind fun n=>(if n=true then iter (kM a Yn) FU ((-1),0) else none)
def yZ(a:zr)(d:Unit):Option Bool:=
 (QU a).bind fun b=>(if b=true then if (a.Net.List.length:Int)=0 then (QN a).bind fun c=>(some<|decide (c=0)) else none else none)
def Z7(b:zr)(c:Unit→Option Bool)(d:Int→Option Bool)(a:Int):Option Bool:=
 if a < 3 then (idx b.Replicas a).bind fun e=>(if ¬e.Mode=1 then none else (idx b.Replicas a).bind fun f=>(if ¬f.View=1 then none else (idx b.Replicas a).bind fun g=>(if ¬g.Commit=2 then none else d (IntKind.wrap .i64 (a+1))))) else c ()
def yT(o:List Int):Option Bool:=
 (Jg o).bind fun q=>(if q=true then some true else (J7 3).bind fun r=>(jS o).bind fun h=>(zo r<|TGo.mk 1 0 0 1 1 h.1).bind fun p=>(jF p.1).bind fun b=>(z7 (zB.mk ([]:List zD) ([]:List zN)) h.1).bind fun c=>(if ¬p.2=0 then none else if ¬(b.Replies.length:Int)=1 then none else (idx b.Replies 0).bind fun i=>(if ¬i.Answer=c.2 then none else (zo b<|TGo.mk 7 1 0 0 0<|qX.mk 0 0 0).bind fun d=>(jF d.1).bind fun j=>(zo j<|TGo.mk 9 0 0 0 0<|qX.mk 0 0 0).bind fun e=>(zo e.1<|TGo.mk 10 0 0 0 0<|qX.mk 0 0 0).bind fun f=>(jF f.1).bind fun k=>(zo k<|TGo.mk 1 1 0 1 2 h.2).bind fun g=>(jF g.1).bind fun a=>(z7 c.1 h.2).bind fun l=>(if ¬d.2=0 then none else if ¬e.2=0 then none else if ¬f.2=0 then none else if ¬g.2=0 then none else if ¬(a.Replies.length:Int)=2 then none else (idx a.Replies 1).bind fun m=>(if ¬m.Answer=l.2 then none else (Y2 a).bind fun n=>(if ¬n=3 then none else iter (Z7 a<|yZ a) FU 0))))))
abbrev zfL(x:zA):List C:=[dI x.Client,dI x.Req,dI x.Cmd.Kind,dI x.Cmd.Key,dI x.Cmd.Value]
abbrev zcf(x:zb):List C:=[dI x.Me,dI x.Of,dI x.Mode,dI x.View,dI x.Normal,dI x.Commit,dI x.Log.Base,.d<|.sl 2<|List.map zh x.Log.Image.Cells,.d<|.sl 3<|List.map zg x.Log.Image.Seats,.d<|.sl 5<|List.map zi x.Log.Entries,.d<|.sl 10<|List.map zu x.Votes,dI x.Cell,dI x.Nonce]
abbrev ziw(x:qk):List C:=[dI x.Base,.d<|.sl 2<|List.map zh x.Image.Cells,.d<|.sl 3<|List.map zg x.Image.Seats,.d<|.sl 5<|List.map zi x.Entries]
abbrev JA(x:zB):List C:=[.d (.sl 2<|List.map zh x.Cells),.d<|.sl 3<|List.map zg x.Seats]
abbrev QL(x:zr):List C:=[dI x.Of,.d<|.sl 13<|List.map zm x.Replicas,dI x.Net.Next,.d<|.sl 3<|List.map zS x.Net.List,.d<|.sl 3<|List.map zg x.Replies]
abbrev zKs(x:TGo):List C:=[dI x.Kind,dI x.At,dI x.To,dI x.Client,dI x.Req,dI x.Cmd.Kind,dI x.Cmd.Key,dI x.Cmd.Value]
abbrev zo7(x:Yk):List C:=[dI x.Next,.d<|.sl 3<|List.map zS x.List]
abbrev zeJ(x:qg):List C:=[dI x.Kind,dI x.From,dI x.View,dI x.Op,dI x.Commit,dI x.Normal,dI x.Nonce,dI x.Client,dI x.Req,dI x.Answer,dI x.Cmd.Kind,dI x.Cmd.Key,dI x.Cmd.Value,dI x.Log.Base,.d<|.sl 2<|List.map zh x.Log.Image.Cells,.d<|.sl 3<|List.map zg x.Log.Image.Seats,.d<|.sl 5<|List.map zi x.Log.Entries]
end Go.AW
