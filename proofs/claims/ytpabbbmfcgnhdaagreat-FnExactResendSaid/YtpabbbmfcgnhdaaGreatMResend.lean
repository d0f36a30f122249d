/- Plain functions that say what functions of the program compute. Conditions: none. -/
import Derived.Test.YtpabbbmfcgnhdaaGreatYi
set_option linter.unusedVariables false
set_option linter.unusedSimpArgs false
set_option maxRecDepth 100000
namespace Go.AW
structure zT where
 Key:Int
 Value:Int
deriving DecidableEq
def XU(x:zT):Prop:=inK .i64 x.Key∧inK .i64 x.Value
structure zS where
 Client:Int
 Req:Int
 Answer:Int
deriving DecidableEq
def XL(x:zS):Prop:=inK .i64 x.Client∧inK .i64 x.Req∧inK .i64 x.Answer
structure zK where
 Cells:(List zT)
 Seats:(List zS)
deriving DecidableEq
def kB(x:zK):Prop:=okS XU x.Cells∧okS XL x.Seats
structure ji where
 Kind:Int
 Key:Int
 Value:Int
deriving DecidableEq
def zec(x:ji):Prop:=inK .i64 x.Kind∧inK .i64 x.Key∧inK .i64 x.Value
structure zA where
 Client:Int
 Req:Int
 Cmd:ji
deriving DecidableEq
def kw(x:zA):Prop:=inK .i64 x.Client∧inK .i64 x.Req∧zec x.Cmd
structure z4 where
 Base:Int
 Image:zK
 Entries:(List zA)
deriving DecidableEq
def kV(x:z4):Prop:=inK .i64 x.Base∧kB x.Image∧okS kw x.Entries
structure zE where
 Kind:Int
 From:Int
 View:Int
 Normal:Int
 Op:Int
 Commit:Int
 Log:z4
deriving DecidableEq
def Y8(x:zE):Prop:=inK .i64 x.Kind∧inK .i64 x.From∧inK .i64 x.View∧inK .i64 x.Normal∧inK .i64 x.Op∧inK .i64 x.Commit∧kV x.Log
structure zu where
 Me:Int
 Of:Int
 Mode:Int
 View:Int
 Normal:Int
 Commit:Int
 Log:z4
 Votes:(List zE)
 Cell:Int
 Nonce:Int
deriving DecidableEq
def Y2(x:zu):Prop:=inK .i64 x.Me∧inK .i64 x.Of∧inK .i64 x.Mode∧inK .i64 x.View∧inK .i64 x.Normal∧inK .i64 x.Commit∧kV x.Log∧okS Y8 x.Votes∧inK .i64 x.Cell∧inK .i64 x.Nonce
abbrev ze(x:zT):List D:=[.int .i64 x.Key,.int .i64 x.Value]
abbrev zg(x:zS):List D:=[.int .i64 x.Client,.int .i64 x.Req,.int .i64 x.Answer]
abbrev zf(x:zA):List D:=[.int .i64 x.Client,.int .i64 x.Req,.int .i64 x.Cmd.Kind,.int .i64 x.Cmd.Key,.int .i64 x.Cmd.Value]
abbrev zo(x:zE):List D:=[.int .i64 x.Kind,.int .i64 x.From,.int .i64 x.View,.int .i64 x.Normal,.int .i64 x.Op,.int .i64 x.Commit,.int .i64 x.Log.Base,.sl 2<|List.map ze x.Log.Image.Cells,.sl 3<|List.map zg x.Log.Image.Seats,.sl 5<|List.map zf x.Log.Entries]
abbrev qb(x:zu):List D:=[.int .i64 x.Me,.int .i64 x.Of,.int .i64 x.Mode,.int .i64 x.View,.int .i64 x.Normal,.int .i64 x.Commit,.int .i64 x.Log.Base,.sl 2<|List.map ze x.Log.Image.Cells,.sl 3<|List.map zg x.Log.Image.Seats,.sl 5<|List.map zf x.Log.Entries,.sl 10<|List.map zo x.Votes,.int .i64 x.Cell,.int .i64 x.Nonce]
abbrev j7(x:z4):List D:=[.int .i64 x.Base,.sl 2<|List.map ze x.Image.Cells,.sl 3<|List.map zg x.Image.Seats,.sl 5<|List.map zf x.Entries]
abbrev jK(x:zK):List D:=[.sl 2 (List.map ze x.Cells),.sl 3<|List.map zg x.Seats]
abbrev XR(x:ji):List D:=[.int .i64 x.Kind,.int .i64 x.Key,.int .i64 x.Value]
structure qi where
 Kind:Int
 From:Int
 View:Int
 Op:Int
 Commit:Int
 Normal:Int
 Nonce:Int
 Client:Int
 Req:Int
 Answer:Int
 Cmd:ji
 Log:z4
deriving DecidableEq
structure zO where
 To:Int
 Msg:qi
deriving DecidableEq
abbrev XE(x:qi):List D:=[.int .i64 x.Kind,.int .i64 x.From,.int .i64 x.View,.int .i64 x.Op,.int .i64 x.Commit,.int .i64 x.Normal,.int .i64 x.Nonce,.int .i64 x.Client,.int .i64 x.Req,.int .i64 x.Answer,.int .i64 x.Cmd.Kind,.int .i64 x.Cmd.Key,.int .i64 x.Cmd.Value,.int .i64 x.Log.Base,.sl 2<|List.map ze x.Log.Image.Cells,.sl 3<|List.map zg x.Log.Image.Seats,.sl 5<|List.map zf x.Log.Entries]
abbrev zp(x:zO):List D:=[.int .i64 x.To,.int .i64 x.Msg.Kind,.int .i64 x.Msg.From,.int .i64 x.Msg.View,.int .i64 x.Msg.Op,.int .i64 x.Msg.Commit,.int .i64 x.Msg.Normal,.int .i64 x.Msg.Nonce,.int .i64 x.Msg.Client,.int .i64 x.Msg.Req,.int .i64 x.Msg.Answer,.int .i64 x.Msg.Cmd.Kind,.int .i64 x.Msg.Cmd.Key,.int .i64 x.Msg.Cmd.Value,.int .i64 x.Msg.Log.Base,.sl 2<|List.map ze x.Msg.Log.Image.Cells,.sl 3<|List.map zg x.Msg.Log.Image.Seats,.sl 5<|List.map zf x.Msg.Log.Entries]
structure qq where
 Replica:zu
 outs:(List zO)
deriving DecidableEq
abbrev YI(x:qq):List D:=[.int .i64 x.Replica.Me,.int .i64 x.Replica.Of,.int .i64 x.Replica.Mode,.int .i64 x.Replica.View,.int .i64 x.Replica.Normal,.int .i64 x.Replica.Commit,.int .i64 x.Replica.Log.Base,.sl 2<|List.map ze x.Replica.Log.Image.Cells,.sl 3<|List.map zg x.Replica.Log.Image.Seats,.sl 5<|List.map zf x.Replica.Log.Entries,.sl 10<|List.map zo x.Replica.Votes,.int .i64 x.Replica.Cell,.int .i64 x.Replica.Nonce,.sl 18<|List.map zp x.outs]
abbrev jN(x:Int):List D:=[.int .i64 x]
abbrev zdP(x:List zA):List D:=[.sl 5 (List.map zf x)]
abbrev zfx(x:List zS):List D:=[.sl 3 (List.map zg x)]
abbrev zfg(x:List zT):List D:=[.sl 2 (List.map ze x)]
abbrev ze9(x:List zE):List D:=[.sl 10 (List.map zo x)]
def QR(a:List zT)(b:Int):Option Int:=
 if (IntKind.wrap .i64 (b - (a.length:Int))) < 0 then some (-1) else some (IntKind.wrap .i64 (b - (a.length:Int)))
def QW(a:List zS)(b:Int):Option Int:=
 if (IntKind.wrap .i64 (b - (a.length:Int))) < 0 then some (-1) else some (IntKind.wrap .i64 (b - (a.length:Int)))
def QD(a:zK)(d:Int):Option Int:=
 (QR a.Cells d).bind fun b=>(if b < 0 then some (-1) else (QW a.Seats b).bind fun c=>(if c < 0 then some (-1) else some c))
def ZR(a:List zA)(b:Int):Option Int:=
 if (IntKind.wrap .i64 (b - (a.length:Int))) < 0 then some (-1) else some (IntKind.wrap .i64 (b - (a.length:Int)))
def Je(a:z4)(d:Int):Option Int:=
 (QD a.Image d).bind fun b=>(if b < 0 then some (-1) else (ZR a.Entries b).bind fun c=>(if c < 0 then some (-1) else some c))
def Js(b:zE)(c:Int):Option Int:=
 (Je b.Log c).bind fun a=>(if a < 0 then some (-1) else some a)
def JI(a:Int):Option Int:=
 some a
def JV(e:List zE)(c:Int→Option Int)(d:(Int×Int)→Option Int)(a:Int×Int):Option Int:=
 if a.2 < (e.length:Int) then (idx e a.2).bind fun f=>((Js f a.1).bind fun b=>(if b < 0 then some (-1) else d (b,IntKind.wrap .i64 (a.2+1)))) else c a.1
def QK(a:List zE)(b:Int):Option Int:=
 if (IntKind.wrap .i64 (b - (a.length:Int))) < 0 then some (-1) else iter (JV a JI) FU (IntKind.wrap .i64 (b - (a.length:Int)),0)
def Zu(a:zu)(d:Int):Option Int:=
 (Je a.Log d).bind fun b=>(if b < 0 then some (-1) else (QK a.Votes b).bind fun c=>(if c < 0 then some (-1) else some c))
def YY(a:zT):Option zT:=
 some a
def JJ(a:List zT):Option (List zT):=
 some a
def JR(e:List zT)(b:List zT→Option (List zT))(c:(List zT×Int)→Option (List zT))(a:List zT×Int):Option (List zT):=
 if a.2 < (e.length:Int) then (idx e a.2).bind fun f=>((YY f).bind fun d=>(idx a.1 a.2).bind fun g=>c (a.1.set (Int.toNat a.2) d,IntKind.wrap .i64 (a.2+1))) else b a.1
def QS(a:List zT):Option (List zT):=
 if 0≤(a.length:Int)∧(a.length:Int)≤2147483648 then iter (JR a JJ) FU (List.replicate (Int.toNat (a.length:Int))<|zT.mk 0 0,0) else none
def YU(a:zS):Option zS:=
 some a
def JS(a:List zS):Option (List zS):=
 some a
def JQ(e:List zS)(b:List zS→Option (List zS))(c:(List zS×Int)→Option (List zS))(a:List zS×Int):Option (List zS):=
 if a.2 < (e.length:Int) then (idx e a.2).bind fun f=>((YU f).bind fun d=>(idx a.1 a.2).bind fun g=>c (a.1.set (Int.toNat a.2) d,IntKind.wrap .i64 (a.2+1))) else b a.1
def QO(a:List zS):Option (List zS):=
 if 0≤(a.length:Int)∧(a.length:Int)≤2147483648 then iter (JQ a JS) FU (List.replicate (Int.toNat (a.length:Int))<|zS.mk 0 0 0,0) else none
def QB(a:zK):Option zK:=
 (QS a.Cells).bind fun b=>((QO a.Seats).bind fun c=>some (zK.mk b c))
def xz(a:ji):Option ji:=
 some a
def Yo(a:zA):Option zA:=
 (xz a.Cmd).bind fun b=>(some<|zA.mk a.Client a.Req b)
def Jb(a:List zA):Option (List zA):=
 some a
def Q9(e:List zA)(b:List zA→Option (List zA))(c:(List zA×Int)→Option (List zA))(a:List zA×Int):Option (List zA):=
 if a.2 < (e.length:Int) then (idx e a.2).bind fun f=>((Yo f).bind fun d=>(idx a.1 a.2).bind fun g=>c (a.1.set (Int.toNat a.2) d,IntKind.wrap .i64 (a.2+1))) else b a.1
def ZS(a:List zA):Option (List zA):=
 if 0≤(a.length:Int)∧(a.length:Int)≤2147483648 then iter (Q9 a Jb) FU (List.replicate (Int.toNat (a.length:Int))<|zA.mk 0 0<|ji.mk 0 0 0,0) else none
def Q7(a:z4):Option z4:=
 (QB a.Image).bind fun b=>((ZS a.Entries).bind fun c=>some (z4.mk a.Base b c))
def JE(a:zE):Option zE:=
 (Q7 a.Log).bind fun b=>(some<|zE.mk a.Kind a.From a.View a.Normal a.Op a.Commit b)
def JW(a:List zE):Option (List zE):=
 some a
def JU(e:List zE)(b:List zE→Option (List zE))(c:(List zE×Int)→Option (List zE))(a:List zE×Int):Option (List zE):=
 if a.2 < (e.length:Int) then (idx e a.2).bind fun f=>((JE f).bind fun d=>(idx a.1 a.2).bind fun g=>c (a.1.set (Int.toNat a.2) d,IntKind.wrap .i64 (a.2+1))) else b a.1
def QE(a:List zE):Option (List zE):=
 if 0≤(a.length:Int)∧(a.length:Int)≤2147483648 then iter (JU a JW) FU (List.replicate (Int.toNat (a.length:Int))<|zE.mk 0 0 0 0 0 0<|z4.mk 0 (zK.mk ([]:List zT) ([]:List zS)) ([]:List zA),0) else none
def jz(a:zu):Option zu:=
 (Q7 a.Log).bind fun b=>((QE a.Votes).bind fun c=>some (zu.mk a.Me a.Of a.Mode a.View a.Normal a.Commit b c a.Cell a.Nonce))
def Yd(a:Int):Option Bool:=
 if a=1 then some true else if a=3 then some true else some (decide (a=5))
def j6(a:Int)(b:Int)(c:Int):Option Bool:=
 if b≤a then some (decide (a≤c)) else some false
def z9(a:Int):Option Bool:=
 (j6 a 0 1000000000).bind fun b=>(some b)
def Z4(a:Unit):Option Bool:=
 some true
def jD(a:Int→Option Bool)(c:Int)(b:Bool):Option Bool:=
 if b=true then some false else a (IntKind.wrap .i64 (c+1))
def Z9(d:zK)(e:Unit→Option Bool)(a:Int→Option Bool)(b:Int):Option Bool:=
 if b < (d.Seats.length:Int) then (idx d.Seats b).bind fun c=>((z9 c.Client).bind fun f=>(if f=true then (j6 c.Req 1 1000000000).bind fun g=>(if g=true then (j6 c.Answer (-1) 1000000000).bind fun h=>(if h=true then if 0 < b then (idx d.Seats<|IntKind.wrap .i64 (b - 1)).bind fun i=>((jD a b)<|decide (c.Client≤i.Client)) else (jD a b) false else (jD a b) true) else (jD a b) true) else (jD a b) true)) else e ()
def ZZ(a:zK)(b:Unit):Option Bool:=
 iter (Z9 a Z4) FU 0
def jU(a:Int→Option Bool)(b:Int)(c:Bool):Option Bool:=
 if c=true then some false else a (IntKind.wrap .i64 (b+1))
def Zi(c:zK)(d:Unit→Option Bool)(b:Int→Option Bool)(a:Int):Option Bool:=
 if a < (c.Cells.length:Int) then (idx c.Cells a).bind fun e=>((z9 e.Key).bind fun f=>(if f=true then (idx c.Cells a).bind fun g=>((z9 g.Value).bind fun h=>(if h=true then if 0 < a then (idx c.Cells<|IntKind.wrap .i64 (a - 1)).bind fun i=>((idx c.Cells a).bind fun j=>(jU b a) (decide (j.Key≤i.Key))) else (jU b a) false else (jU b a) true)) else (jU b a) true)) else d ()
def Qa(a:zK)(b:Bool):Option Bool:=
 if b=true then some false else iter (Zi a<|ZZ a) FU 0
def QL(a:zK):Option Bool:=
 if 40 < (a.Cells.length:Int) then (Qa a) true else (Qa a) (decide (10 < (a.Seats.length:Int)))
def QX(c:ji)(a:Bool):Option Bool:=
 if a=true then (z9 c.Key).bind fun b=>(if b=true then some (decide (c.Value=0)) else some false) else some false
def Jw(a:ji)(b:Bool):Option Bool:=
 if b=true then (z9 a.Key).bind fun c=>(if c=true then (z9 a.Value).bind fun d=>(some d) else some false) else if a.Kind=1 then (QX a) (decide (a.Kind=1)) else (QX a) (decide (a.Kind=4))
def Yp(a:ji):Option Bool:=
 if a.Kind=2 then (Jw a) (decide (a.Kind=2)) else (Jw a) (decide (a.Kind=3))
def QQ(a:zA):Option Bool:=
 (z9 a.Client).bind fun b=>(if b=true then (j6 a.Req 1 1000000000).bind fun c=>(if c=true then (Yp a.Cmd).bind fun d=>(some d) else some false) else some false)
def JF(a:Unit):Option Bool:=
 some true
def JA(f:z4)(a:Unit→Option Bool)(b:Int→Option Bool)(c:Int):Option Bool:=
 if c < (f.Entries.length:Int) then (idx f.Entries c).bind fun d=>((QQ d).bind fun e=>(if e=true then b (IntKind.wrap .i64 (c+1)) else some false)) else a ()
def y6(a:z4)(b:Bool):Option Bool:=
 if b=true then some false else iter (JA a JF) FU 0
def ZN(a:z4):Option Bool:=
 (z9 a.Base).bind fun b=>(if b=true then (QL a.Image).bind fun c=>(if c=true then if 60 < (a.Entries.length:Int) then (y6 a) true else (z9<|IntKind.wrap .i64 (a.Base+(a.Entries.length:Int))).bind fun d=>((y6 a) (!d)) else (y6 a) true) else (y6 a) true)
def y8(a:z4):Option Int:=
 (ZN a).bind fun b=>(if b=true then some (IntKind.wrap .i64 (a.Base+(a.Entries.length:Int))) else some (-1))
def Jj(a:z4)(b:Int):Option Bool:=
 (ZN a).bind fun c=>(if c=true then (y8 a).bind fun d=>((j6 b a.Base d).bind fun e=>some e) else some false)
def jV(a:zE)(e:Int)(f:Bool):Option Bool:=
 if f=true then (j6 a.From 0<|IntKind.wrap .i64 (e - 1)).bind fun g=>(if g=true then (z9 a.View).bind fun h=>(if h=true then (z9 a.Normal).bind fun b=>(if b=true then (z9 a.Op).bind fun c=>(if c=true then (Jj a.Log a.Commit).bind fun d=>(some d) else some false) else some false) else some false) else some false) else some false
def Z0(a:zE)(b:Int):Option Bool:=
 if a.Kind=3 then (jV a b) (decide (a.Kind=3)) else if a.Kind=5 then (jV a b) (decide (a.Kind=5)) else if a.Kind=6 then (jV a b) (decide (a.Kind=6)) else (jV a b) (decide (a.Kind=9))
def yS(a:Unit):Option Bool:=
 some true
def ZK(f:zK)(g:zK)(e:Unit→Option Bool)(d:Int→Option Bool)(a:Int):Option Bool:=
 if a < (f.Seats.length:Int) then (idx f.Seats a).bind fun b=>((idx g.Seats a).bind fun c=>(if (decide (b.Client=c.Client)&&(decide (b.Req=c.Req)&&(decide (b.Answer=c.Answer)&&true)))=true then d (IntKind.wrap .i64 (a+1)) else some false)) else e ()
def yT(a:zK)(b:zK)(c:Unit):Option Bool:=
 iter (ZK a b yS) FU 0
def ZJ(f:zK)(g:zK)(e:Unit→Option Bool)(b:Int→Option Bool)(a:Int):Option Bool:=
 if a < (f.Cells.length:Int) then (idx f.Cells a).bind fun c=>((idx g.Cells a).bind fun d=>(if (decide (c.Key=d.Key)&&(decide (c.Value=d.Value)&&true))=true then b (IntKind.wrap .i64 (a+1)) else some false)) else e ()
def yP(a:zK)(b:zK)(c:Bool):Option Bool:=
 if c=true then some false else iter (ZJ a b<|yT a b) FU 0
def Zj(a:zK)(b:zK):Option Bool:=
 if ¬(a.Cells.length:Int)=(b.Cells.length:Int) then (yP a b) true else (yP a b) (decide (¬(a.Seats.length:Int)=(b.Seats.length:Int)))
def ZX(a:Unit):Option Bool:=
 some true
def JO(f:z4)(g:z4)(d:Unit→Option Bool)(e:Int→Option Bool)(c:Int):Option Bool:=
 if c < (f.Entries.length:Int) then (idx f.Entries c).bind fun a=>((idx g.Entries c).bind fun b=>(if (decide (a.Client=b.Client)&&(decide (a.Req=b.Req)&&(decide (a.Cmd.Kind=b.Cmd.Kind)&&(decide (a.Cmd.Key=b.Cmd.Key)&&(decide (a.Cmd.Value=b.Cmd.Value)&&true)))))=true then e (IntKind.wrap .i64 (c+1)) else some false)) else d ()
def yL(a:z4)(b:z4)(c:Bool):Option Bool:=
 if c=true then some false else iter (JO a b ZX) FU 0
def QC(a:z4)(b:z4):Option Bool:=
 if ¬a.Base=b.Base then (yL a b) true else if ¬(a.Entries.length:Int)=(b.Entries.length:Int) then (yL a b) true else (Zj a.Image b.Image).bind fun c=>((yL a b) (!c))
def yA(a:zu)(b:Bool):Option Bool:=
 if b=true then if a.View=0 then if a.Normal=0 then if a.Commit=0 then (QC a.Log<|z4.mk 0 (zK.mk ([]:List zT) ([]:List zS)) ([]:List zA)).bind fun c=>(if c=true then if a.Mode=3 then some true else some (decide ((a.Votes.length:Int)=0)) else some false) else some false else some false else some false else some false
def ye(a:zu)(b:Unit):Option Bool:=
 if a.Mode=1 then if a.View=a.Normal then some (decide (a.View=a.Cell)) else some false else if a.Mode=2 then if a.Normal≤a.View then some (decide (a.View=a.Cell)) else some false else if a.Mode=0 then (yA a) (decide (a.Mode=0)) else (yA a) (decide (a.Mode=3))
def yF(c:zu)(d:Unit→Option Bool)(b:Int→Option Bool)(a:Int):Option Bool:=
 if a < (c.Votes.length:Int) then (idx c.Votes a).bind fun e=>((Z0 e c.Of).bind fun f=>(if f=true then b (IntKind.wrap .i64 (a+1)) else some false)) else d ()
def qH(a:zu)(b:Bool):Option Bool:=
 if b=true then some false else iter (yF a<|ye a) FU 0
def Zo(a:zu):Option Bool:=
 (Yd a.Of).bind fun b=>(if b=true then (j6 a.Me 0<|IntKind.wrap .i64 (a.Of - 1)).bind fun c=>(if c=true then (z9 a.View).bind fun d=>(if d=true then (z9 a.Normal).bind fun e=>(if e=true then (z9 a.Cell).bind fun f=>(if f=true then (z9 a.Nonce).bind fun g=>(if g=true then (Jj a.Log a.Commit).bind fun h=>(if h=true then (qH a) (decide (20 < (a.Votes.length:Int))) else (qH a) true) else (qH a) true) else (qH a) true) else (qH a) true) else (qH a) true) else (qH a) true) else (qH a) true)
def y4(a:Int)(b:Int)(c:Bool):Option Int:=
 if c=true then some (-1) else if ¬a=0 then some (Int.tmod b a) else none
def yx(a:Int)(b:Int):Option Int:=
 (z9 a).bind fun d=>(if d=true then (Yd b).bind fun c=>((y4 b a) (!c)) else (y4 b a) true)
def Zq(a:zu):Option Bool:=
 (yx a.View a.Of).bind fun b=>(some<|decide (b=a.Me))
def Qd(a:z4)(b:Int)(c:Bool):Option (zA×Bool):=
 if c=true then some (zA.mk 0 0<|ji.mk 0 0 0,false) else (idx a.Entries<|IntKind.wrap .i64 ((IntKind.wrap .i64 (b - a.Base)) - 1)).bind fun d=>(some (d,true))
def Yl(a:z4)(b:Int):Option (zA×Bool):=
 (ZN a).bind fun d=>(if d=true then if b≤a.Base then (Qd a b) true else (y8 a).bind fun c=>((Qd a b)<|decide (c < b)) else (Qd a b) true)
def Zv(a:zu)(c:Int):Option qi:=
 (Yl a.Log c).bind fun b=>(some<|qi.mk 2 a.Me a.View c a.Commit 0 0 b.1.Client b.1.Req 0 b.1.Cmd<|z4.mk 0 (zK.mk ([]:List zT) ([]:List zS)) ([]:List zA))
def Y1(a:zK):Option zK:=
 if a.Cells.length≤2147483648 then if a.Seats.length≤2147483648 then some a else none else none
def Qb(a:z4):Option z4:=
 (Y1 a.Image).bind fun b=>(if a.Entries.length≤2147483648 then some (z4.mk a.Base b a.Entries) else none)
def YT(a:List zO):Option (List zO):=
 some a
def Y0(e:zu)(a:qi)(d:List zO→Option (List zO))(c:(List zO×Int)→Option (List zO))(b:List zO×Int):Option (List zO):=
 if b.2 < e.Of then if ¬b.2=e.Me then (Qb a.Log).bind fun f=>(if (b.1++[zO.mk b.2 (qi.mk a.Kind a.From a.View a.Op a.Commit a.Normal a.Nonce a.Client a.Req a.Answer a.Cmd f)]).length≤2147483648 then c (b.1++[zO.mk b.2 (qi.mk a.Kind a.From a.View a.Op a.Commit a.Normal a.Nonce a.Client a.Req a.Answer a.Cmd f)],IntKind.wrap .i64 (b.2+1)) else none) else c (b.1,IntKind.wrap .i64 (b.2+1)) else d b.1
def yX(a:zu)(b:qi):Option (List zO):=
 iter (Y0 a b YT) FU (([]:List zO),0)
def Yr(a:Unit):Option Int:=
 some (-1)
def QT(b:Int)(a:Int→Option Int)(c:Bool):Option Int:=
 if c=true then some b else a (IntKind.wrap .i64 (b+1))
def Yw(c:List zE)(g:Int)(h:Int)(d:Unit→Option Int)(a:Int→Option Int)(b:Int):Option Int:=
 if b < (c.length:Int) then (idx c b).bind fun e=>(if e.Kind=g then (idx c b).bind fun f=>((QT b a)<|decide (f.From=h)) else (QT b a) false) else d ()
def Jq(a:List zE)(b:Int)(c:Int):Option Int:=
 iter (Yw a b c Yr) FU 0
def ka(a:zu):Option qi:=
 (Qb a.Log).bind fun b=>(some<|qi.mk 6 a.Me a.View 0 a.Commit a.Normal 0 0 0 0 (ji.mk 0 0 0) b)
def j9(a:List zO):Option (List zO):=
 some a
def JN(c:zu)(a:List zO):Option (List zO):=
 (yX c<|qi.mk 4 c.Me c.View 0 c.Commit 0 0 0 0 0 (ji.mk 0 0 0)<|z4.mk 0 (zK.mk ([]:List zT) ([]:List zS)) ([]:List zA)).bind fun b=>(if (a++b).length≤2147483648 then some (a++b) else none)
def JZ(e:zu)(b:List zO→Option (List zO))(c:(List zO×Int)→Option (List zO))(a:List zO×Int):Option (List zO):=
 (y8 e.Log).bind fun f=>(if a.2≤f then (Zv e a.2).bind fun g=>((yX e g).bind fun d=>(if (a.1++d).length≤2147483648 then c (a.1++d,IntKind.wrap .i64 (a.2+1)) else none)) else b a.1)
def Z7(e:zu)(a:List zO)(b:List zO→Option (List zO))(f:Bool):Option (List zO):=
 if f=true then (yx e.View e.Of).bind fun c=>((ka e).bind fun d=>(if (a++[zO.mk c d]).length≤2147483648 then b (a++[zO.mk c d]) else none)) else b a
def Zm(a:zu)(b:List zO→Option (List zO))(g:Bool):Option (List zO):=
 if g=true then iter (JZ a<|JN a) FU (([]:List zO),IntKind.wrap .i64 (a.Commit+1)) else if a.Mode=2 then (yX a<|qi.mk 5 a.Me a.View 0 0 0 0 0 0 0 (ji.mk 0 0 0)<|z4.mk 0 (zK.mk ([]:List zT) ([]:List zS)) ([]:List zA)).bind fun c=>((Jq a.Votes 6 a.Me).bind fun d=>(if 0≤d then (Zq a).bind fun e=>((Z7 a c b) (!e)) else (Z7 a c b) false)) else if a.Mode=3 then (yX a<|qi.mk 8 a.Me 0 0 0 0 a.Nonce 0 0 0 (ji.mk 0 0 0)<|z4.mk 0 (zK.mk ([]:List zT) ([]:List zS)) ([]:List zA)).bind fun f=>(b f) else b ([]:List zO)
def JG(a:zu):Option (List zO):=
 (Zo a).bind fun c=>(if c=true then if a.Mode=1 then (Zq a).bind fun b=>((Zm a j9) b) else (Zm a j9) false else some ([]:List zO))
def Y6(a:Int):Option Bool:=
 if a=1 then some true else if a=3 then some true else some (decide (a=5))
def jy(a:Int)(b:Int)(c:Int):Option Bool:=
 if b≤a then some (decide (a≤c)) else some false
def zV(a:Int):Option Bool:=
 (jy a 0 1000000000).bind fun b=>(some b)
def Q3(a:Int):Option Bool:=
 (jy a 1 1000000000).bind fun b=>(some b)
def Z2(a:Int):Option Bool:=
 (jy a (-1) 1000000000).bind fun b=>(some b)
def Z6(a:zK)(b:Unit):Option Bool:=
 if (a.Cells.length:Int)≤40 then some (decide ((a.Seats.length:Int)≤10)) else some false
def jB(a:Int→Option Bool)(c:Int)(b:Bool):Option Bool:=
 if b=true then some false else a (IntKind.wrap .i64 (c+1))
def Z8(d:zK)(e:Unit→Option Bool)(a:Int→Option Bool)(b:Int):Option Bool:=
 if b < (d.Seats.length:Int) then (idx d.Seats b).bind fun c=>((zV c.Client).bind fun f=>(if f=true then (Q3 c.Req).bind fun g=>(if g=true then (Z2 c.Answer).bind fun h=>(if h=true then if 0 < b then (idx d.Seats<|IntKind.wrap .i64 (b - 1)).bind fun i=>((jB a b)<|decide (c.Client≤i.Client)) else (jB a b) false else (jB a b) true) else (jB a b) true) else (jB a b) true)) else e ()
def Z3(a:zK)(b:Unit):Option Bool:=
 iter (Z8 a<|Z6 a) FU 0
def jW(a:Int→Option Bool)(b:Int)(c:Bool):Option Bool:=
 if c=true then some false else a (IntKind.wrap .i64 (b+1))
def Zp(d:zK)(e:Unit→Option Bool)(b:Int→Option Bool)(a:Int):Option Bool:=
 if a < (d.Cells.length:Int) then (idx d.Cells a).bind fun c=>((zV c.Key).bind fun f=>(if f=true then (zV c.Value).bind fun g=>(if g=true then if 0 < a then (idx d.Cells<|IntKind.wrap .i64 (a - 1)).bind fun h=>((jW b a)<|decide (c.Key≤h.Key)) else (jW b a) false else (jW b a) true) else (jW b a) true)) else e ()
def QU(a:zK):Option Bool:=
 iter (Zp a<|Z3 a) FU 0
def JH(c:ji)(d:Bool):Option Bool:=
 if d=true then (zV c.Key).bind fun a=>(if a=true then (zV c.Value).bind fun b=>(some b) else some false) else some false
def Jr(a:ji)(b:Bool):Option Bool:=
 if b=true then (zV a.Key).bind fun c=>(if c=true then some (decide (a.Value=0)) else some false) else if a.Kind=2 then (JH a) (decide (a.Kind=2)) else (JH a) (decide (a.Kind=3))
def YA(a:ji):Option Bool:=
 if a.Kind=1 then (Jr a) (decide (a.Kind=1)) else (Jr a) (decide (a.Kind=4))
def QI(a:zA):Option Bool:=
 (zV a.Client).bind fun b=>(if b=true then (Q3 a.Req).bind fun c=>(if c=true then (YA a.Cmd).bind fun d=>(some d) else some false) else some false)
def QP(a:zA):Option Bool:=
 (QI a).bind fun b=>(some (!b))
def jw(a:Unit):Option Int:=
 some (-1)
def qX(d:List zA)(b:Unit→Option Int)(c:Int→Option Int)(a:Int):Option Int:=
 if a < (d.length:Int) then (idx d a).bind fun e=>((QP e).bind fun f=>(if f=true then some a else c (IntKind.wrap .i64 (a+1)))) else b ()
def jd(a:List zA):Option Int:=
 iter (qX a jw) FU 0
def qt(a:List zA):Option Bool:=
 (jd a).bind fun b=>(some<|decide (0≤b))
def Ys(a:z4):Option Bool:=
 (zV a.Base).bind fun c=>(if c=true then (QU a.Image).bind fun d=>(if d=true then if (a.Entries.length:Int)≤60 then (qt a.Entries).bind fun e=>(if e=true then some false else (zV<|IntKind.wrap .i64 (a.Base+(a.Entries.length:Int))).bind fun b=>some b) else some false else some false) else some false)
def k7(a:z4):Option Int:=
 some (IntKind.wrap .i64 (a.Base+(a.Entries.length:Int)))
def jq(a:z4)(b:Int):Option Bool:=
 (Ys a).bind fun c=>(if c=true then (k7 a).bind fun d=>((jy b a.Base d).bind fun e=>some e) else some false)
def Jz(a:zE)(b:Int):Option Bool:=
 if a.Kind=3 then (jy a.From 0<|IntKind.wrap .i64 (b - 1)).bind fun u=>(if u=true then (zV a.View).bind fun v=>(if v=true then (zV a.Normal).bind fun c=>(if c=true then (zV a.Op).bind fun d=>(if d=true then (jq a.Log a.Commit).bind fun e=>(some e) else some false) else some false) else some false) else some false) else if a.Kind=5 then (jy a.From 0<|IntKind.wrap .i64 (b - 1)).bind fun f=>(if f=true then (zV a.View).bind fun g=>(if g=true then (zV a.Normal).bind fun h=>(if h=true then (zV a.Op).bind fun i=>(if i=true then (jq a.Log a.Commit).bind fun j=>(some j) else some false) else some false) else some false) else some false) else if a.Kind=6 then (jy a.From 0<|IntKind.wrap .i64 (b - 1)).bind fun k=>(if k=true then (zV a.View).bind fun l=>(if l=true then (zV a.Normal).bind fun m=>(if m=true then (zV a.Op).bind fun n=>(if n=true then (jq a.Log a.Commit).bind fun o=>(some o) else some false) else some false) else some false) else some false) else if a.Kind=9 then (jy a.From 0<|IntKind.wrap .i64 (b - 1)).bind fun p=>(if p=true then (zV a.View).bind fun q=>(if q=true then (zV a.Normal).bind fun r=>(if r=true then (zV a.Op).bind fun s=>(if s=true then (jq a.Log a.Commit).bind fun t=>(some t) else some false) else some false) else some false) else some false) else some false
def yz(a:zE)(b:zu):Option Bool:=
 (Jz a b.Of).bind fun c=>(some (!c))
def jo(a:Unit):Option Int:=
 some (-1)
def qL(e:List zE)(f:zu)(b:Unit→Option Int)(c:Int→Option Int)(a:Int):Option Int:=
 if a < (e.length:Int) then (idx e a).bind fun g=>((yz g f).bind fun d=>(if d=true then some a else c (IntKind.wrap .i64 (a+1)))) else b ()
def qR(a:List zE)(b:zu):Option Int:=
 iter (qL a b jo) FU 0
def qh(a:List zE)(b:zu):Option Bool:=
 (qR a b).bind fun c=>(some<|decide (0≤c))
def j5(a:Unit):Option Bool:=
 some true
def yO(e:List zT)(g:List zT)(c:Unit→Option Bool)(d:Int→Option Bool)(b:Int):Option Bool:=
 if b < (e.length:Int) then (idx e b).bind fun f=>((idx g b).bind fun a=>(if (decide (f.Key=a.Key)&&(decide (f.Value=a.Value)&&true))=true then d (IntKind.wrap .i64 (b+1)) else some false)) else c ()
def yh(a:List zT)(b:List zT):Option Bool:=
 if ¬(a.length:Int)=(b.length:Int) then some false else iter (yO a b j5) FU 0
def j4(a:Unit):Option Bool:=
 some true
def yR(f:List zS)(g:List zS)(c:Unit→Option Bool)(d:Int→Option Bool)(b:Int):Option Bool:=
 if b < (f.length:Int) then (idx f b).bind fun e=>((idx g b).bind fun a=>(if (decide (e.Client=a.Client)&&(decide (e.Req=a.Req)&&(decide (e.Answer=a.Answer)&&true)))=true then d (IntKind.wrap .i64 (b+1)) else some false)) else c ()
def yj(a:List zS)(b:List zS):Option Bool:=
 if ¬(a.length:Int)=(b.length:Int) then some false else iter (yR a b j4) FU 0
def Ja(a:zK)(b:zK):Option Bool:=
 (yh a.Cells b.Cells).bind fun c=>(if c=true then (yj a.Seats b.Seats).bind fun d=>(some d) else some false)
def jP(a:Unit):Option Bool:=
 some true
def yH(f:List zA)(g:List zA)(d:Unit→Option Bool)(e:Int→Option Bool)(c:Int):Option Bool:=
 if c < (f.length:Int) then (idx f c).bind fun b=>((idx g c).bind fun a=>(if (decide (b.Client=a.Client)&&(decide (b.Req=a.Req)&&(decide (b.Cmd.Kind=a.Cmd.Kind)&&(decide (b.Cmd.Key=a.Cmd.Key)&&(decide (b.Cmd.Value=a.Cmd.Value)&&true)))))=true then e (IntKind.wrap .i64 (c+1)) else some false)) else d ()
def yb(a:List zA)(b:List zA):Option Bool:=
 if ¬(a.length:Int)=(b.length:Int) then some false else iter (yH a b jP) FU 0
def Yy(a:z4)(b:z4):Option Bool:=
 if a.Base=b.Base then (Ja a.Image b.Image).bind fun c=>(if c=true then (yb a.Entries b.Entries).bind fun d=>(some d) else some false) else some false
def Zy(a:z4):Option Bool:=
 (Yy a<|z4.mk 0 (zK.mk ([]:List zT) ([]:List zS)) ([]:List zA)).bind fun b=>(some b)
def jx(a:zu)(b:Bool):Option Bool:=
 if b=true then if a.View=0 then if a.Normal=0 then if a.Commit=0 then (Zy a.Log).bind fun c=>(if c=true then if a.Mode=3 then some true else some (decide ((a.Votes.length:Int)=0)) else some false) else some false else some false else some false else some false
def qF(a:zu)(b:Bool):Option Bool:=
 if b=true then some false else (qh a.Votes a).bind fun c=>(if c=true then some false else if a.Mode=1 then if a.View=a.Normal then some (decide (a.View=a.Cell)) else some false else if a.Mode=2 then if a.Normal≤a.View then some (decide (a.View=a.Cell)) else some false else if a.Mode=0 then (jx a) (decide (a.Mode=0)) else (jx a) (decide (a.Mode=3)))
def Zn(a:zu):Option Bool:=
 (Y6 a.Of).bind fun b=>(if b=true then (jy a.Me 0<|IntKind.wrap .i64 (a.Of - 1)).bind fun c=>(if c=true then (zV a.View).bind fun d=>(if d=true then (zV a.Normal).bind fun e=>(if e=true then (zV a.Cell).bind fun f=>(if f=true then (zV a.Nonce).bind fun g=>(if g=true then (jq a.Log a.Commit).bind fun h=>(if h=true then (qF a) (decide (20 < (a.Votes.length:Int))) else (qF a) true) else (qF a) true) else (qF a) true) else (qF a) true) else (qF a) true) else (qF a) true) else (qF a) true)
def jA(a:List zT)(b:Unit):Option (List zT):=
 if a.length≤2147483648 then some a else none
def yg(a:List zT):Option (List zT):=
 if a.length=0 then (jA a) () else (jA a) ()
def jC(a:List zS)(b:Unit):Option (List zS):=
 if a.length≤2147483648 then some a else none
def yp(a:List zS):Option (List zS):=
 if a.length=0 then (jC a) () else (jC a) ()
def Q5(a:zK):Option zK:=
 (yg a.Cells).bind fun b=>((yp a.Seats).bind fun c=>some (zK.mk b c))
def jr(a:List zA)(b:Unit):Option (List zA):=
 if a.length≤2147483648 then some a else none
def j8(a:List zA):Option (List zA):=
 if a.length=0 then (jr a) () else (jr a) ()
def yD(a:z4):Option z4:=
 (Q5 a.Image).bind fun b=>((j8 a.Entries).bind fun c=>some (z4.mk a.Base b c))
def Qj(a:List zE):Option (List zE):=
 some a
def Ql(e:List zE)(c:List zE→Option (List zE))(d:(List zE×Int)→Option (List zE))(b:List zE×Int):Option (List zE):=
 if b.2 < (e.length:Int) then (idx e b.2).bind fun a=>((yD a.Log).bind fun f=>(if (b.1++[zE.mk a.Kind a.From a.View a.Normal a.Op a.Commit f]).length≤2147483648 then d (b.1++[zE.mk a.Kind a.From a.View a.Normal a.Op a.Commit f],IntKind.wrap .i64 (b.2+1)) else none)) else c b.1
def Zx(a:List zE):Option (List zE):=
 iter (Ql a Qj) FU (([]:List zE),0)
def yB(a:zu):Option zu:=
 (yD a.Log).bind fun b=>((Zx a.Votes).bind fun c=>some (zu.mk a.Me a.Of a.Mode a.View a.Normal a.Commit b c a.Cell a.Nonce))
def jl(a:qq):Option Bool:=
 if ¬a.Replica.Of=0 then some (decide (a.Replica.Me=(Int.tmod a.Replica.View a.Replica.Of))) else none
def yG(a:qq)(c:Int)(b:zA):Option qi:=
 some (qi.mk 2 a.Replica.Me a.Replica.View c a.Replica.Commit 0 0 b.Client b.Req 0 b.Cmd<|z4.mk 0 (zK.mk ([]:List zT) ([]:List zS)) ([]:List zA))
def jX(b:qq)(c:Int)(a:qi):Option qq:=
 (yD a.Log).bind fun d=>(if (b.outs++[zO.mk c (qi.mk a.Kind a.From a.View a.Op a.Commit a.Normal a.Nonce a.Client a.Req a.Answer a.Cmd d)]).length≤2147483648 then some (qq.mk b.Replica (b.outs++[zO.mk c (qi.mk a.Kind a.From a.View a.Op a.Commit a.Normal a.Nonce a.Client a.Req a.Answer a.Cmd d)])) else none)
def yr(c:qq)(e:qi)(d:(Int×Int×Int×Int×Int×Int×Int×Int×Int×Int×List zO)→Option qq)(a:Int×Int×Int×Int×Int×Int×Int×Int×Int×Int×List zO):Option qq:=
 if a.1 < c.Replica.Of then if ¬a.1=a.2.1 then (jX (qq.mk (zu.mk a.2.1 a.2.2.1 a.2.2.2.1 a.2.2.2.2.1 a.2.2.2.2.2.1 a.2.2.2.2.2.2.1 (z4.mk a.2.2.2.2.2.2.2.1 c.Replica.Log.Image c.Replica.Log.Entries) c.Replica.Votes a.2.2.2.2.2.2.2.2.1 a.2.2.2.2.2.2.2.2.2.1) a.2.2.2.2.2.2.2.2.2.2) a.1 e).bind fun b=>(d (IntKind.wrap .i64 (a.1+1),b.Replica.Me,b.Replica.Of,b.Replica.Mode,b.Replica.View,b.Replica.Normal,b.Replica.Commit,b.Replica.Log.Base,b.Replica.Cell,b.Replica.Nonce,b.outs)) else d (IntKind.wrap .i64 (a.1+1),a.2.1,a.2.2.1,a.2.2.2.1,a.2.2.2.2.1,a.2.2.2.2.2.1,a.2.2.2.2.2.2.1,a.2.2.2.2.2.2.2.1,a.2.2.2.2.2.2.2.2.1,a.2.2.2.2.2.2.2.2.2.1,a.2.2.2.2.2.2.2.2.2.2) else some (qq.mk (zu.mk a.2.1 a.2.2.1 a.2.2.2.1 a.2.2.2.2.1 a.2.2.2.2.2.1 a.2.2.2.2.2.2.1 (z4.mk a.2.2.2.2.2.2.2.1 c.Replica.Log.Image c.Replica.Log.Entries) c.Replica.Votes a.2.2.2.2.2.2.2.2.1 a.2.2.2.2.2.2.2.2.2.1) a.2.2.2.2.2.2.2.2.2.2)
def qP(a:qq)(b:qi):Option qq:=
 iter (yr a b) FU (0,a.Replica.Me,a.Replica.Of,a.Replica.Mode,a.Replica.View,a.Replica.Normal,a.Replica.Commit,a.Replica.Log.Base,a.Replica.Cell,a.Replica.Nonce,a.outs)
def yV(a:zE)(b:Int)(c:Int):Option Bool:=
 if a.Kind=b then some (decide (a.From=c)) else some false
def jj(a:Unit):Option Int:=
 some (-1)
def qE(e:List zE)(f:Int)(g:Int)(b:Unit→Option Int)(c:Int→Option Int)(a:Int):Option Int:=
 if a < (e.length:Int) then (idx e a).bind fun h=>((yV h f g).bind fun d=>(if d=true then some a else c (IntKind.wrap .i64 (a+1)))) else b ()
def qG(a:List zE)(b:Int)(c:Int):Option Int:=
 iter (qE a b c jj) FU 0
def yC(a:qq)(b:Int)(c:Int):Option Int:=
 (qG a.Replica.Votes b c).bind fun d=>(some d)
def Ze(a:qq):Option qi:=
 some (qi.mk 6 a.Replica.Me a.Replica.View 0 a.Replica.Commit a.Replica.Normal 0 0 0 0 (ji.mk 0 0 0) a.Replica.Log)
def jJ(a:Int×Int×Int×Int×Int×Int×Int×Int×Int×List zO):Option (List zO):=
 some a.2.2.2.2.2.2.2.2.2
def JK(c:zu)(d:(Int×Int×Int×Int×Int×Int×Int×Int×Int×List zO)→Option (List zO))(a:Int×Int×Int×Int×Int×Int×Int×Int×Int×List zO):Option (List zO):=
 (qP (qq.mk (zu.mk a.1 a.2.1 a.2.2.1 a.2.2.2.1 a.2.2.2.2.1 a.2.2.2.2.2.1 (z4.mk a.2.2.2.2.2.2.1 c.Log.Image c.Log.Entries) c.Votes a.2.2.2.2.2.2.2.1 a.2.2.2.2.2.2.2.2.1) a.2.2.2.2.2.2.2.2.2)<|qi.mk 4 a.1 a.2.2.2.1 0 a.2.2.2.2.2.1 0 0 0 0 0 (ji.mk 0 0 0)<|z4.mk 0 (zK.mk ([]:List zT) ([]:List zS)) ([]:List zA)).bind fun b=>(d (b.Replica.Me,b.Replica.Of,b.Replica.Mode,b.Replica.View,b.Replica.Normal,b.Replica.Commit,b.Replica.Log.Base,b.Replica.Cell,b.Replica.Nonce,b.outs))
def J3(c:zu)(d:(Int×Int×Int×Int×Int×Int×Int×Int×Int×List zO)→Option (List zO))(e:(Int×Int×Int×Int×Int×Int×Int×Int×Int×Int×List zO)→Option (List zO))(a:Int×Int×Int×Int×Int×Int×Int×Int×Int×Int×List zO):Option (List zO):=
 if a.1 < (((Int.toNat ((c.Log.Entries.length:Nat):Int) - Int.toNat (IntKind.wrap .i64 (c.Commit - c.Log.Base))):Nat):Int) then (idx (List.take (Int.toNat ((c.Log.Entries.length:Nat):Int) - Int.toNat (IntKind.wrap .i64 (c.Commit - c.Log.Base)))<|List.drop (Int.toNat<|IntKind.wrap .i64 (c.Commit - c.Log.Base)) c.Log.Entries) a.1).bind fun f=>((yG (qq.mk (zu.mk a.2.1 a.2.2.1 a.2.2.2.1 a.2.2.2.2.1 a.2.2.2.2.2.1 a.2.2.2.2.2.2.1 (z4.mk a.2.2.2.2.2.2.2.1 c.Log.Image c.Log.Entries) c.Votes a.2.2.2.2.2.2.2.2.1 a.2.2.2.2.2.2.2.2.2.1) a.2.2.2.2.2.2.2.2.2.2) (IntKind.wrap .i64 ((IntKind.wrap .i64 (a.2.2.2.2.2.2.1+1))+a.1)) f).bind fun g=>(qP (qq.mk (zu.mk a.2.1 a.2.2.1 a.2.2.2.1 a.2.2.2.2.1 a.2.2.2.2.2.1 a.2.2.2.2.2.2.1 (z4.mk a.2.2.2.2.2.2.2.1 c.Log.Image c.Log.Entries) c.Votes a.2.2.2.2.2.2.2.2.1 a.2.2.2.2.2.2.2.2.2.1) a.2.2.2.2.2.2.2.2.2.2) g).bind fun b=>e (IntKind.wrap .i64 (a.1+1),b.Replica.Me,b.Replica.Of,b.Replica.Mode,b.Replica.View,b.Replica.Normal,b.Replica.Commit,b.Replica.Log.Base,b.Replica.Cell,b.Replica.Nonce,b.outs)) else d (a.2.1,a.2.2.1,a.2.2.2.1,a.2.2.2.2.1,a.2.2.2.2.2.1,a.2.2.2.2.2.2.1,a.2.2.2.2.2.2.2.1,a.2.2.2.2.2.2.2.2.1,a.2.2.2.2.2.2.2.2.2.1,a.2.2.2.2.2.2.2.2.2.2)
def ZT(a:qq)(d:zu)(e:(Int×Int×Int×Int×Int×Int×Int×Int×Int×List zO)→Option (List zO))(f:Bool):Option (List zO):=
 if f=true then if ¬a.Replica.Of=0 then (Ze<|qq.mk (zu.mk a.Replica.Me a.Replica.Of a.Replica.Mode a.Replica.View a.Replica.Normal a.Replica.Commit (z4.mk a.Replica.Log.Base d.Log.Image d.Log.Entries) d.Votes a.Replica.Cell a.Replica.Nonce) a.outs).bind fun b=>((jX (qq.mk (zu.mk a.Replica.Me a.Replica.Of a.Replica.Mode a.Replica.View a.Replica.Normal a.Replica.Commit (z4.mk a.Replica.Log.Base d.Log.Image d.Log.Entries) d.Votes a.Replica.Cell a.Replica.Nonce) a.outs) (Int.tmod a.Replica.View a.Replica.Of)<|qi.mk b.Kind b.From b.View b.Op b.Commit b.Normal b.Nonce b.Client b.Req b.Answer b.Cmd<|z4.mk b.Log.Base d.Log.Image d.Log.Entries).bind fun c=>e (c.Replica.Me,c.Replica.Of,c.Replica.Mode,c.Replica.View,c.Replica.Normal,c.Replica.Commit,c.Replica.Log.Base,c.Replica.Cell,c.Replica.Nonce,c.outs)) else none else e (a.Replica.Me,a.Replica.Of,a.Replica.Mode,a.Replica.View,a.Replica.Normal,a.Replica.Commit,a.Replica.Log.Base,a.Replica.Cell,a.Replica.Nonce,a.outs)
def ZC(b:zu)(d:(Int×Int×Int×Int×Int×Int×Int×Int×Int×List zO)→Option (List zO))(g:Bool):Option (List zO):=
 if g=true then if (0:Int)≤(IntKind.wrap .i64 (b.Commit - b.Log.Base))∧(IntKind.wrap .i64 (b.Commit - b.Log.Base))≤((b.Log.Entries.length:Nat):Int)∧((b.Log.Entries.length:Nat):Int)≤((b.Log.Entries.length:Nat):Int) then iter (J3 b<|JK b d) FU (0,b.Me,b.Of,b.Mode,b.View,b.Normal,b.Commit,b.Log.Base,b.Cell,b.Nonce,([]:List zO)) else none else if b.Mode=2 then (qP (qq.mk b ([]:List zO))<|qi.mk 5 b.Me b.View 0 0 0 0 0 0 0 (ji.mk 0 0 0)<|z4.mk 0 (zK.mk ([]:List zT) ([]:List zS)) ([]:List zA)).bind fun a=>((yC (qq.mk (zu.mk a.Replica.Me a.Replica.Of a.Replica.Mode a.Replica.View a.Replica.Normal a.Replica.Commit (z4.mk a.Replica.Log.Base b.Log.Image b.Log.Entries) b.Votes a.Replica.Cell a.Replica.Nonce) a.outs) 6 a.Replica.Me).bind fun e=>(if 0≤e then (jl<|qq.mk (zu.mk a.Replica.Me a.Replica.Of a.Replica.Mode a.Replica.View a.Replica.Normal a.Replica.Commit (z4.mk a.Replica.Log.Base b.Log.Image b.Log.Entries) b.Votes a.Replica.Cell a.Replica.Nonce) a.outs).bind fun f=>((ZT a b d) (!f)) else (ZT a b d) false)) else if b.Mode=3 then (qP (qq.mk b ([]:List zO))<|qi.mk 8 b.Me 0 0 0 0 b.Nonce 0 0 0 (ji.mk 0 0 0)<|z4.mk 0 (zK.mk ([]:List zT) ([]:List zS)) ([]:List zA)).bind fun c=>(d (c.Replica.Me,c.Replica.Of,c.Replica.Mode,c.Replica.View,c.Replica.Normal,c.Replica.Commit,c.Replica.Log.Base,c.Replica.Cell,c.Replica.Nonce,c.outs)) else d (b.Me,b.Of,b.Mode,b.View,b.Normal,b.Commit,b.Log.Base,b.Cell,b.Nonce,([]:List zO))
def Qc(c:zu):Option (List zO):=
 (Zn c).bind fun d=>(if d=true then (yB c).bind fun b=>(if b.Mode=1 then (jl<|qq.mk b ([]:List zO)).bind fun a=>((ZC b jJ) a) else (ZC b jJ) false) else some ([]:List zO))
def Q8(a:ji)(b:ji):Option Bool:=
 if ¬a.Kind=b.Kind then some false else if ¬a.Key=b.Key then some false else if ¬a.Value=b.Value then some false else some true
def JD(a:zT)(b:zT):Option Bool:=
 if ¬a.Key=b.Key then some false else if ¬a.Value=b.Value then some false else some true
def xm(a:Unit):Option Bool:=
 some true
def JP(f:List zT)(g:List zT)(b:Unit→Option Bool)(c:Int→Option Bool)(a:Int):Option Bool:=
 if a < (f.length:Int) then (idx f a).bind fun h=>((idx g a).bind fun d=>(JD h d).bind fun e=>(if e=true then c (IntKind.wrap .i64 (a+1)) else some false)) else b ()
def QV(a:List zT)(b:List zT):Option Bool:=
 if ¬(a.length:Int)=(b.length:Int) then some false else iter (JP a b xm) FU 0
def Jx(a:zS)(b:zS):Option Bool:=
 if ¬a.Client=b.Client then some false else if ¬a.Req=b.Req then some false else if ¬a.Answer=b.Answer then some false else some true
def xh(a:Unit):Option Bool:=
 some true
def JX(f:List zS)(g:List zS)(b:Unit→Option Bool)(c:Int→Option Bool)(a:Int):Option Bool:=
 if a < (f.length:Int) then (idx f a).bind fun h=>((idx g a).bind fun d=>(Jx h d).bind fun e=>(if e=true then c (IntKind.wrap .i64 (a+1)) else some false)) else b ()
def QN(a:List zS)(b:List zS):Option Bool:=
 if ¬(a.length:Int)=(b.length:Int) then some false else iter (JX a b xh) FU 0
def Q0(a:zK)(b:zK):Option Bool:=
 (QV a.Cells b.Cells).bind fun c=>(if c=true then (QN a.Seats b.Seats).bind fun d=>(if d=true then some true else some false) else some false)
def QA(a:zA)(b:zA):Option Bool:=
 if ¬a.Client=b.Client then some false else if ¬a.Req=b.Req then some false else (Q8 a.Cmd b.Cmd).bind fun c=>(if c=true then some true else some false)
def YP(a:Unit):Option Bool:=
 some true
def Jd(f:List zA)(g:List zA)(b:Unit→Option Bool)(c:Int→Option Bool)(a:Int):Option Bool:=
 if a < (f.length:Int) then (idx f a).bind fun h=>((idx g a).bind fun d=>(QA h d).bind fun e=>(if e=true then c (IntKind.wrap .i64 (a+1)) else some false)) else b ()
def Z5(a:List zA)(b:List zA):Option Bool:=
 if ¬(a.length:Int)=(b.length:Int) then some false else iter (Jd a b YP) FU 0
def ZM(a:z4)(b:z4):Option Bool:=
 if ¬a.Base=b.Base then some false else (Q0 a.Image b.Image).bind fun c=>(if c=true then (Z5 a.Entries b.Entries).bind fun d=>(if d=true then some true else some false) else some false)
def Yn(a:qi)(b:qi):Option Bool:=
 if ¬a.Kind=b.Kind then some false else if ¬a.From=b.From then some false else if ¬a.View=b.View then some false else if ¬a.Op=b.Op then some false else if ¬a.Commit=b.Commit then some false else if ¬a.Normal=b.Normal then some false else if ¬a.Nonce=b.Nonce then some false else if ¬a.Client=b.Client then some false else if ¬a.Req=b.Req then some false else if ¬a.Answer=b.Answer then some false else (Q8 a.Cmd b.Cmd).bind fun c=>(if c=true then (ZM a.Log b.Log).bind fun d=>(if d=true then some true else some false) else some false)
def YC(a:zO)(b:zO):Option Bool:=
 if ¬a.To=b.To then some false else (Yn a.Msg b.Msg).bind fun c=>(if c=true then some true else some false)
def xI(a:Unit):Option Bool:=
 some true
def Yv(f:List zO)(g:List zO)(b:Unit→Option Bool)(c:Int→Option Bool)(a:Int):Option Bool:=
 if a < (f.length:Int) then (idx f a).bind fun h=>((idx g a).bind fun d=>(YC h d).bind fun e=>(if e=true then c (IntKind.wrap .i64 (a+1)) else some false)) else b ()
def y9(a:List zO)(b:List zO):Option Bool:=
 if ¬(a.length:Int)=(b.length:Int) then some false else iter (Yv a b xI) FU 0
def Jv(a:zE)(b:zE):Option Bool:=
 if ¬a.Kind=b.Kind then some false else if ¬a.From=b.From then some false else if ¬a.View=b.View then some false else if ¬a.Normal=b.Normal then some false else if ¬a.Op=b.Op then some false else if ¬a.Commit=b.Commit then some false else (ZM a.Log b.Log).bind fun c=>(if c=true then some true else some false)
def xl(a:Unit):Option Bool:=
 some true
def JT(f:List zE)(g:List zE)(b:Unit→Option Bool)(c:Int→Option Bool)(a:Int):Option Bool:=
 if a < (f.length:Int) then (idx f a).bind fun h=>((idx g a).bind fun d=>(Jv h d).bind fun e=>(if e=true then c (IntKind.wrap .i64 (a+1)) else some false)) else b ()
def QM(a:List zE)(b:List zE):Option Bool:=
 if ¬(a.length:Int)=(b.length:Int) then some false else iter (JT a b xl) FU 0
def ZE(a:zu)(b:zu):Option Bool:=
 if ¬a.Me=b.Me then some false else if ¬a.Of=b.Of then some false else if ¬a.Mode=b.Mode then some false else if ¬a.View=b.View then some false else if ¬a.Normal=b.Normal then some false else if ¬a.Commit=b.Commit then some false else (ZM a.Log b.Log).bind fun d=>(if d=true then (QM a.Votes b.Votes).bind fun c=>(if c=true then if ¬a.Cell=b.Cell then some false else if ¬a.Nonce=b.Nonce then some false else some true else some false) else some false)
def Qq(b:List zT)(a:List zT×Int):Option (Int×List zT):=
 if a.1.length=b.length then some (a.2,a.1) else none
def Qk(b:(List zT×Int)→Option (Int×List zT))(c:(List zT×Int×Int)→Option (Int×List zT))(a:List zT×Int×Int):Option (Int×List zT):=
 if a.2.2 < ((a.1.length:Nat):Int) then (idx a.1 a.2.2).bind fun d=>(c (a.1.set (Int.toNat a.2.2)<|zT.mk a.2.1<|IntKind.wrap .i64 (a.2.1+1),IntKind.wrap .i64 ((IntKind.wrap .i64 (a.2.1+1))+1),IntKind.wrap .i64 (a.2.2+1))) else b (a.1,a.2.1)
def jR(a:List zT)(b:Int):Option (Int×List zT):=
 iter (Qk<|Qq a) FU (a,b,0)
def Qn(b:List zS)(a:List zS×Int):Option (Int×List zS):=
 if a.1.length=b.length then some (a.2,a.1) else none
def Qs(b:(List zS×Int)→Option (Int×List zS))(c:(List zS×Int×Int)→Option (Int×List zS))(a:List zS×Int×Int):Option (Int×List zS):=
 if a.2.2 < ((a.1.length:Nat):Int) then (idx a.1 a.2.2).bind fun d=>(c (a.1.set (Int.toNat a.2.2)<|zS.mk a.2.1 (IntKind.wrap .i64 (a.2.1+1))<|IntKind.wrap .i64 ((IntKind.wrap .i64 (a.2.1+1))+1),IntKind.wrap .i64 ((IntKind.wrap .i64 ((IntKind.wrap .i64 (a.2.1+1))+1))+1),IntKind.wrap .i64 (a.2.2+1))) else b (a.1,a.2.1)
def jT(a:List zS)(b:Int):Option (Int×List zS):=
 iter (Qs<|Qn a) FU (a,b,0)
def Zr(a:zK)(d:Int):Option (Int×zK):=
 (jR a.Cells d).bind fun b=>(if b.2.length=a.Cells.length then (jT a.Seats b.1).bind fun c=>(if c.2.length=a.Seats.length then if b.2.length=a.Cells.length then if c.2.length=a.Seats.length then some (c.1,zK.mk b.2 c.2) else none else none else none) else none)
def ZO(b:List zA)(a:List zA×Int):Option (Int×List zA):=
 if a.1.length=b.length then some (a.2,a.1) else none
def ZL(b:(List zA×Int)→Option (Int×List zA))(c:(List zA×Int×Int)→Option (Int×List zA))(a:List zA×Int×Int):Option (Int×List zA):=
 if a.2.2 < ((a.1.length:Nat):Int) then (idx a.1 a.2.2).bind fun d=>(c (a.1.set (Int.toNat a.2.2)<|zA.mk a.2.1 (IntKind.wrap .i64 (a.2.1+1))<|ji.mk (IntKind.wrap .i64 ((IntKind.wrap .i64 (a.2.1+1))+1)) (IntKind.wrap .i64 ((IntKind.wrap .i64 ((IntKind.wrap .i64 (a.2.1+1))+1))+1))<|IntKind.wrap .i64 ((IntKind.wrap .i64 ((IntKind.wrap .i64 ((IntKind.wrap .i64 (a.2.1+1))+1))+1))+1),IntKind.wrap .i64 ((IntKind.wrap .i64 ((IntKind.wrap .i64 ((IntKind.wrap .i64 ((IntKind.wrap .i64 (a.2.1+1))+1))+1))+1))+1),IntKind.wrap .i64 (a.2.2+1))) else b (a.1,a.2.1)
def jI(a:List zA)(b:Int):Option (Int×List zA):=
 iter (ZL<|ZO a) FU (a,b,0)
def QY(a:z4)(d:Int):Option (Int×z4):=
 (Zr a.Image d).bind fun b=>(if b.2.Cells.length=a.Image.Cells.length then if b.2.Seats.length=a.Image.Seats.length then (jI a.Entries b.1).bind fun c=>(if c.2.length=a.Entries.length then if b.2.Cells.length=a.Image.Cells.length then if b.2.Seats.length=a.Image.Seats.length then if c.2.length=a.Entries.length then some (c.1,z4.mk a.Base b.2 c.2) else none else none else none else none) else none else none)
def Qv(b:List zE)(a:List zE×Int):Option (Int×List zE):=
 if a.1.length=b.length then some (a.2,a.1) else none
def Qi(e:(List zE×Int)→Option (Int×List zE))(f:(List zE×Int×Int)→Option (Int×List zE))(a:List zE×Int×Int):Option (Int×List zE):=
 if a.2.2 < ((a.1.length:Nat):Int) then (idx a.1 a.2.2).bind fun g=>((jR g.Log.Image.Cells<|IntKind.wrap .i64 ((IntKind.wrap .i64 ((IntKind.wrap .i64 ((IntKind.wrap .i64 ((IntKind.wrap .i64 ((IntKind.wrap .i64 ((IntKind.wrap .i64 (a.2.1+1))+1))+1))+1))+1))+1))+1)).bind fun b=>(jT g.Log.Image.Seats b.1).bind fun c=>(jI g.Log.Entries c.1).bind fun d=>f (a.1.set (Int.toNat a.2.2)<|zE.mk a.2.1 (IntKind.wrap .i64 (a.2.1+1)) (IntKind.wrap .i64 ((IntKind.wrap .i64 (a.2.1+1))+1)) (IntKind.wrap .i64 ((IntKind.wrap .i64 ((IntKind.wrap .i64 (a.2.1+1))+1))+1)) (IntKind.wrap .i64 ((IntKind.wrap .i64 ((IntKind.wrap .i64 ((IntKind.wrap .i64 (a.2.1+1))+1))+1))+1)) (IntKind.wrap .i64 ((IntKind.wrap .i64 ((IntKind.wrap .i64 ((IntKind.wrap .i64 ((IntKind.wrap .i64 (a.2.1+1))+1))+1))+1))+1))<|z4.mk (IntKind.wrap .i64 ((IntKind.wrap .i64 ((IntKind.wrap .i64 ((IntKind.wrap .i64 ((IntKind.wrap .i64 ((IntKind.wrap .i64 (a.2.1+1))+1))+1))+1))+1))+1)) (zK.mk b.2 c.2) d.2,d.1,IntKind.wrap .i64 (a.2.2+1))) else e (a.1,a.2.1)
def ZB(a:List zE)(b:Int):Option (Int×List zE):=
 iter (Qi<|Qv a) FU (a,b,0)
def yE(a:zu)(d:Int):Option (Int×zu):=
 (QY a.Log d).bind fun b=>(if b.2.Image.Cells.length=a.Log.Image.Cells.length then if b.2.Image.Seats.length=a.Log.Image.Seats.length then if b.2.Entries.length=a.Log.Entries.length then (ZB a.Votes b.1).bind fun c=>(if c.2.length=a.Votes.length then if b.2.Image.Cells.length=a.Log.Image.Cells.length then if b.2.Image.Seats.length=a.Log.Image.Seats.length then if b.2.Entries.length=a.Log.Entries.length then if c.2.length=a.Votes.length then some (c.1,zu.mk a.Me a.Of a.Mode a.View a.Normal a.Commit (z4.mk a.Log.Base b.2.Image b.2.Entries) c.2 a.Cell a.Nonce) else none else none else none else none else none) else none else none else none)
def Q6(b:List zO)(a:List zO×Int):Option (Int×List zO):=
 if a.1.length=b.length then some (a.2,a.1) else none
def ZF(e:(List zO×Int)→Option (Int×List zO))(f:(List zO×Int×Int)→Option (Int×List zO))(a:List zO×Int×Int):Option (Int×List zO):=
 if a.2.2 < ((a.1.length:Nat):Int) then (idx a.1 a.2.2).bind fun g=>((jR g.Msg.Log.Image.Cells<|IntKind.wrap .i64 ((IntKind.wrap .i64 ((IntKind.wrap .i64 ((IntKind.wrap .i64 ((IntKind.wrap .i64 ((IntKind.wrap .i64 ((IntKind.wrap .i64 ((IntKind.wrap .i64 ((IntKind.wrap .i64 ((IntKind.wrap .i64 ((IntKind.wrap .i64 ((IntKind.wrap .i64 ((IntKind.wrap .i64 ((IntKind.wrap .i64 ((IntKind.wrap .i64 (a.2.1+1))+1))+1))+1))+1))+1))+1))+1))+1))+1))+1))+1))+1))+1))+1)).bind fun b=>(jT g.Msg.Log.Image.Seats b.1).bind fun c=>(jI g.Msg.Log.Entries c.1).bind fun d=>f (a.1.set (Int.toNat a.2.2)<|zO.mk a.2.1<|qi.mk (IntKind.wrap .i64 (a.2.1+1)) (IntKind.wrap .i64 ((IntKind.wrap .i64 (a.2.1+1))+1)) (IntKind.wrap .i64 ((IntKind.wrap .i64 ((IntKind.wrap .i64 (a.2.1+1))+1))+1)) (IntKind.wrap .i64 ((IntKind.wrap .i64 ((IntKind.wrap .i64 ((IntKind.wrap .i64 (a.2.1+1))+1))+1))+1)) (IntKind.wrap .i64 ((IntKind.wrap .i64 ((IntKind.wrap .i64 ((IntKind.wrap .i64 ((IntKind.wrap .i64 (a.2.1+1))+1))+1))+1))+1)) (IntKind.wrap .i64 ((IntKind.wrap .i64 ((IntKind.wrap .i64 ((IntKind.wrap .i64 ((IntKind.wrap .i64 ((IntKind.wrap .i64 (a.2.1+1))+1))+1))+1))+1))+1)) (IntKind.wrap .i64 ((IntKind.wrap .i64 ((IntKind.wrap .i64 ((IntKind.wrap .i64 ((IntKind.wrap .i64 ((IntKind.wrap .i64 ((IntKind.wrap .i64 (a.2.1+1))+1))+1))+1))+1))+1))+1)) (IntKind.wrap .i64 ((IntKind.wrap .i64 ((IntKind.wrap .i64 ((IntKind.wrap .i64 ((IntKind.wrap .i64 ((IntKind.wrap .i64 ((IntKind.wrap .i64 ((IntKind.wrap .i64 (a.2.1+1))+1))+1))+1))+1))+1))+1))+1)) (IntKind.wrap .i64 ((IntKind.wrap .i64 ((IntKind.wrap .i64 ((IntKind.wrap .i64 ((IntKind.wrap .i64 ((IntKind.wrap .i64 ((IntKind.wrap .i64 ((IntKind.wrap .i64 ((IntKind.wrap .i64 (a.2.1+1))+1))+1))+1))+1))+1))+1))+1))+1)) (IntKind.wrap .i64 ((IntKind.wrap .i64 ((IntKind.wrap .i64 ((IntKind.wrap .i64 ((IntKind.wrap .i64 ((IntKind.wrap .i64 ((IntKind.wrap .i64 ((IntKind.wrap .i64 ((IntKind.wrap .i64 ((IntKind.wrap .i64 (a.2.1+1))+1))+1))+1))+1))+1))+1))+1))+1))+1)) (ji.mk (IntKind.wrap .i64 ((IntKind.wrap .i64 ((IntKind.wrap .i64 ((IntKind.wrap .i64 ((IntKind.wrap .i64 ((IntKind.wrap .i64 ((IntKind.wrap .i64 ((IntKind.wrap .i64 ((IntKind.wrap .i64 ((IntKind.wrap .i64 ((IntKind.wrap .i64 (a.2.1+1))+1))+1))+1))+1))+1))+1))+1))+1))+1))+1)) (IntKind.wrap .i64 ((IntKind.wrap .i64 ((IntKind.wrap .i64 ((IntKind.wrap .i64 ((IntKind.wrap .i64 ((IntKind.wrap .i64 ((IntKind.wrap .i64 ((IntKind.wrap .i64 ((IntKind.wrap .i64 ((IntKind.wrap .i64 ((IntKind.wrap .i64 ((IntKind.wrap .i64 (a.2.1+1))+1))+1))+1))+1))+1))+1))+1))+1))+1))+1))+1))<|IntKind.wrap .i64 ((IntKind.wrap .i64 ((IntKind.wrap .i64 ((IntKind.wrap .i64 ((IntKind.wrap .i64 ((IntKind.wrap .i64 ((IntKind.wrap .i64 ((IntKind.wrap .i64 ((IntKind.wrap .i64 ((IntKind.wrap .i64 ((IntKind.wrap .i64 ((IntKind.wrap .i64 ((IntKind.wrap .i64 (a.2.1+1))+1))+1))+1))+1))+1))+1))+1))+1))+1))+1))+1))+1))<|z4.mk (IntKind.wrap .i64 ((IntKind.wrap .i64 ((IntKind.wrap .i64 ((IntKind.wrap .i64 ((IntKind.wrap .i64 ((IntKind.wrap .i64 ((IntKind.wrap .i64 ((IntKind.wrap .i64 ((IntKind.wrap .i64 ((IntKind.wrap .i64 ((IntKind.wrap .i64 ((IntKind.wrap .i64 ((IntKind.wrap .i64 ((IntKind.wrap .i64 (a.2.1+1))+1))+1))+1))+1))+1))+1))+1))+1))+1))+1))+1))+1))+1)) (zK.mk b.2 c.2) d.2,d.1,IntKind.wrap .i64 (a.2.2+1))) else e (a.1,a.2.1)
def ZV(a:List zO)(b:Int):Option (Int×List zO):=
 iter (ZF<|Q6 a) FU (a,b,0)
def Qt(a:Int):Option Int:=
 some a
def Qp(b:List zT)(c:Int→Option Int)(d:(Int×Int)→Option Int)(a:Int×Int):Option Int:=
 if a.2 < (b.length:Int) then (idx b a.2).bind fun f=>(if ¬f.Key=a.1 then some (-1) else (idx b a.2).bind fun e=>(if ¬e.Value=(IntKind.wrap .i64 (a.1+1)) then some (-1) else d (IntKind.wrap .i64 ((IntKind.wrap .i64 (a.1+1))+1),IntKind.wrap .i64 (a.2+1)))) else c a.1
def ZD(a:List zT)(b:Int):Option Int:=
 iter (Qp a Qt) FU (b,0)
def Qr(a:Int):Option Int:=
 some a
def Qo(b:List zS)(c:Int→Option Int)(d:(Int×Int)→Option Int)(a:Int×Int):Option Int:=
 if a.2 < (b.length:Int) then (idx b a.2).bind fun g=>(if ¬g.Client=a.1 then some (-1) else (idx b a.2).bind fun e=>(if ¬e.Req=(IntKind.wrap .i64 (a.1+1)) then some (-1) else (idx b a.2).bind fun f=>(if ¬f.Answer=(IntKind.wrap .i64 ((IntKind.wrap .i64 (a.1+1))+1)) then some (-1) else d (IntKind.wrap .i64 ((IntKind.wrap .i64 ((IntKind.wrap .i64 (a.1+1))+1))+1),IntKind.wrap .i64 (a.2+1))))) else c a.1
def Zh(a:List zS)(b:Int):Option Int:=
 iter (Qo a Qr) FU (b,0)
def ZI(a:Int):Option Int:=
 some a
def ZH(b:List zA)(c:Int→Option Int)(d:(Int×Int)→Option Int)(a:Int×Int):Option Int:=
 if a.2 < (b.length:Int) then (idx b a.2).bind fun i=>(if ¬i.Client=a.1 then some (-1) else (idx b a.2).bind fun e=>(if ¬e.Req=(IntKind.wrap .i64 (a.1+1)) then some (-1) else (idx b a.2).bind fun f=>(if ¬f.Cmd.Kind=(IntKind.wrap .i64 ((IntKind.wrap .i64 (a.1+1))+1)) then some (-1) else (idx b a.2).bind fun g=>(if ¬g.Cmd.Key=(IntKind.wrap .i64 ((IntKind.wrap .i64 ((IntKind.wrap .i64 (a.1+1))+1))+1)) then some (-1) else (idx b a.2).bind fun h=>(if ¬h.Cmd.Value=(IntKind.wrap .i64 ((IntKind.wrap .i64 ((IntKind.wrap .i64 ((IntKind.wrap .i64 (a.1+1))+1))+1))+1)) then some (-1) else d (IntKind.wrap .i64 ((IntKind.wrap .i64 ((IntKind.wrap .i64 ((IntKind.wrap .i64 ((IntKind.wrap .i64 (a.1+1))+1))+1))+1))+1),IntKind.wrap .i64 (a.2+1))))))) else c a.1
def yZ(a:List zA)(b:Int):Option Int:=
 iter (ZH a ZI) FU (b,0)
def Ji(a:Int):Option Int:=
 some a
def Zz(b:List zO)(f:Int→Option Int)(g:(Int×Int)→Option Int)(a:Int×Int):Option Int:=
 if a.2 < (b.length:Int) then (idx b a.2).bind fun y=>(if ¬y.To=a.1 then some (-1) else (idx b a.2).bind fun h=>(if ¬h.Msg.Kind=(IntKind.wrap .i64 (a.1+1)) then some (-1) else (idx b a.2).bind fun i=>(if ¬i.Msg.From=(IntKind.wrap .i64 ((IntKind.wrap .i64 (a.1+1))+1)) then some (-1) else (idx b a.2).bind fun j=>(if ¬j.Msg.View=(IntKind.wrap .i64 ((IntKind.wrap .i64 ((IntKind.wrap .i64 (a.1+1))+1))+1)) then some (-1) else (idx b a.2).bind fun k=>(if ¬k.Msg.Op=(IntKind.wrap .i64 ((IntKind.wrap .i64 ((IntKind.wrap .i64 ((IntKind.wrap .i64 (a.1+1))+1))+1))+1)) then some (-1) else (idx b a.2).bind fun l=>(if ¬l.Msg.Commit=(IntKind.wrap .i64 ((IntKind.wrap .i64 ((IntKind.wrap .i64 ((IntKind.wrap .i64 ((IntKind.wrap .i64 (a.1+1))+1))+1))+1))+1)) then some (-1) else (idx b a.2).bind fun m=>(if ¬m.Msg.Normal=(IntKind.wrap .i64 ((IntKind.wrap .i64 ((IntKind.wrap .i64 ((IntKind.wrap .i64 ((IntKind.wrap .i64 ((IntKind.wrap .i64 (a.1+1))+1))+1))+1))+1))+1)) then some (-1) else (idx b a.2).bind fun n=>(if ¬n.Msg.Nonce=(IntKind.wrap .i64 ((IntKind.wrap .i64 ((IntKind.wrap .i64 ((IntKind.wrap .i64 ((IntKind.wrap .i64 ((IntKind.wrap .i64 ((IntKind.wrap .i64 (a.1+1))+1))+1))+1))+1))+1))+1)) then some (-1) else (idx b a.2).bind fun o=>(if ¬o.Msg.Client=(IntKind.wrap .i64 ((IntKind.wrap .i64 ((IntKind.wrap .i64 ((IntKind.wrap .i64 ((IntKind.wrap .i64 ((IntKind.wrap .i64 ((IntKind.wrap .i64 ((IntKind.wrap .i64 (a.1+1))+1))+1))+1))+1))+1))+1))+1)) then some (-1) else (idx b a.2).bind fun p=>(if ¬p.Msg.Req=(IntKind.wrap .i64 ((IntKind.wrap .i64 ((IntKind.wrap .i64 ((IntKind.wrap .i64 ((IntKind.wrap .i64 ((IntKind.wrap .i64 ((IntKind.wrap .i64 ((IntKind.wrap .i64 ((IntKind.wrap .i64 (a.1+1))+1))+1))+1))+1))+1))+1))+1))+1)) then some (-1) else (idx b a.2).bind fun q=>(if ¬q.Msg.Answer=(IntKind.wrap .i64 ((IntKind.wrap .i64 ((IntKind.wrap .i64 ((IntKind.wrap .i64 ((IntKind.wrap .i64 ((IntKind.wrap .i64 ((IntKind.wrap .i64 ((IntKind.wrap .i64 ((IntKind.wrap .i64 ((IntKind.wrap .i64 (a.1+1))+1))+1))+1))+1))+1))+1))+1))+1))+1)) then some (-1) else (idx b a.2).bind fun r=>(if ¬r.Msg.Cmd.Kind=(IntKind.wrap .i64 ((IntKind.wrap .i64 ((IntKind.wrap .i64 ((IntKind.wrap .i64 ((IntKind.wrap .i64 ((IntKind.wrap .i64 ((IntKind.wrap .i64 ((IntKind.wrap .i64 ((IntKind.wrap .i64 ((IntKind.wrap .i64 ((IntKind.wrap .i64 (a.1+1))+1))+1))+1))+1))+1))+1))+1))+1))+1))+1)) then some (-1) else (idx b a.2).bind fun s=>(if ¬s.Msg.Cmd.Key=(IntKind.wrap .i64 ((IntKind.wrap .i64 ((IntKind.wrap .i64 ((IntKind.wrap .i64 ((IntKind.wrap .i64 ((IntKind.wrap .i64 ((IntKind.wrap .i64 ((IntKind.wrap .i64 ((IntKind.wrap .i64 ((IntKind.wrap .i64 ((IntKind.wrap .i64 ((IntKind.wrap .i64 (a.1+1))+1))+1))+1))+1))+1))+1))+1))+1))+1))+1))+1)) then some (-1) else (idx b a.2).bind fun t=>(if ¬t.Msg.Cmd.Value=(IntKind.wrap .i64 ((IntKind.wrap .i64 ((IntKind.wrap .i64 ((IntKind.wrap .i64 ((IntKind.wrap .i64 ((IntKind.wrap .i64 ((IntKind.wrap .i64 ((IntKind.wrap .i64 ((IntKind.wrap .i64 ((IntKind.wrap .i64 ((IntKind.wrap .i64 ((IntKind.wrap .i64 ((IntKind.wrap .i64 (a.1+1))+1))+1))+1))+1))+1))+1))+1))+1))+1))+1))+1))+1)) then some (-1) else (idx b a.2).bind fun u=>(if ¬u.Msg.Log.Base=(IntKind.wrap .i64 ((IntKind.wrap .i64 ((IntKind.wrap .i64 ((IntKind.wrap .i64 ((IntKind.wrap .i64 ((IntKind.wrap .i64 ((IntKind.wrap .i64 ((IntKind.wrap .i64 ((IntKind.wrap .i64 ((IntKind.wrap .i64 ((IntKind.wrap .i64 ((IntKind.wrap .i64 ((IntKind.wrap .i64 ((IntKind.wrap .i64 (a.1+1))+1))+1))+1))+1))+1))+1))+1))+1))+1))+1))+1))+1))+1)) then some (-1) else (idx b a.2).bind fun v=>(ZD v.Msg.Log.Image.Cells<|IntKind.wrap .i64 ((IntKind.wrap .i64 ((IntKind.wrap .i64 ((IntKind.wrap .i64 ((IntKind.wrap .i64 ((IntKind.wrap .i64 ((IntKind.wrap .i64 ((IntKind.wrap .i64 ((IntKind.wrap .i64 ((IntKind.wrap .i64 ((IntKind.wrap .i64 ((IntKind.wrap .i64 ((IntKind.wrap .i64 ((IntKind.wrap .i64 ((IntKind.wrap .i64 (a.1+1))+1))+1))+1))+1))+1))+1))+1))+1))+1))+1))+1))+1))+1))+1)).bind fun c=>(if c < 0 then some (-1) else (idx b a.2).bind fun w=>(Zh w.Msg.Log.Image.Seats c).bind fun d=>(if d < 0 then some (-1) else (idx b a.2).bind fun x=>(yZ x.Msg.Log.Entries d).bind fun e=>(if e < 0 then some (-1) else g (e,IntKind.wrap .i64 (a.2+1)))))))))))))))))))) else f a.1
def yM(a:List zO)(b:Int):Option Int:=
 iter (Zz a Ji) FU (b,0)
def jH(b:List zO)(i:zu)(j:List zO)(e:Bool):Option Bool:=
 if e=true then some false else (ZV b 1).bind fun a=>(if a.2.length=b.length then (yM a.2 1).bind fun c=>(if c < 0 then some false else if ¬c=a.1 then some false else (jz i).bind fun f=>(Qc f).bind fun g=>(y9 g j).bind fun h=>(if h=true then (yM a.2 1).bind fun d=>(if d < 0 then some false else if ¬d=a.1 then some false else some true) else some false)) else none)
def yU(d:zu):Option Bool:=
 (Zu d 1048576).bind fun j=>(if j < 0 then some true else (jz d).bind fun k=>(JG k).bind fun e=>(jz d).bind fun c=>(Qc c).bind fun b=>(y9 b e).bind fun f=>(if f=true then (jz d).bind fun g=>((ZE c g).bind fun h=>(if h=true then (yE c 1).bind fun a=>(if a.2.Log.Image.Cells.length=c.Log.Image.Cells.length then if a.2.Log.Image.Seats.length=c.Log.Image.Seats.length then if a.2.Log.Entries.length=c.Log.Entries.length then if a.2.Votes.length=c.Votes.length then if a.1 < 0 then (jH b d e) true else (y9 b e).bind fun i=>((jH b d e) (!i)) else none else none else none else none) else some false)) else some false))
abbrev qg(x:zA):List C:=[dI x.Client,dI x.Req,dI x.Cmd.Kind,dI x.Cmd.Key,dI x.Cmd.Value]
abbrev js(x:zE):List C:=[dI x.Kind,dI x.From,dI x.View,dI x.Normal,dI x.Op,dI x.Commit,dI x.Log.Base,.d<|.sl 2<|List.map ze x.Log.Image.Cells,.d<|.sl 3<|List.map zg x.Log.Image.Seats,.d<|.sl 5<|List.map zf x.Log.Entries]
abbrev zD(x:zu):List C:=[dI x.Me,dI x.Of,dI x.Mode,dI x.View,dI x.Normal,dI x.Commit,dI x.Log.Base,.d<|.sl 2<|List.map ze x.Log.Image.Cells,.d<|.sl 3<|List.map zg x.Log.Image.Seats,.d<|.sl 5<|List.map zf x.Log.Entries,.d<|.sl 10<|List.map zo x.Votes,dI x.Cell,dI x.Nonce]
abbrev jb(x:z4):List C:=[dI x.Base,.d<|.sl 2<|List.map ze x.Image.Cells,.d<|.sl 3<|List.map zg x.Image.Seats,.d<|.sl 5<|List.map zf x.Entries]
abbrev qf(x:zK):List C:=[.d (.sl 2<|List.map ze x.Cells),.d<|.sl 3<|List.map zg x.Seats]
abbrev jn(x:qi):List C:=[dI x.Kind,dI x.From,dI x.View,dI x.Op,dI x.Commit,dI x.Normal,dI x.Nonce,dI x.Client,dI x.Req,dI x.Answer,dI x.Cmd.Kind,dI x.Cmd.Key,dI x.Cmd.Value,dI x.Log.Base,.d<|.sl 2<|List.map ze x.Log.Image.Cells,.d<|.sl 3<|List.map zg x.Log.Image.Seats,.d<|.sl 5<|List.map zf x.Log.Entries]
abbrev zdq(x:zO):List C:=[dI x.To,dI x.Msg.Kind,dI x.Msg.From,dI x.Msg.View,dI x.Msg.Op,dI x.Msg.Commit,dI x.Msg.Normal,dI x.Msg.Nonce,dI x.Msg.Client,dI x.Msg.Req,dI x.Msg.Answer,dI x.Msg.Cmd.Kind,dI x.Msg.Cmd.Key,dI x.Msg.Cmd.Value,dI x.Msg.Log.Base,.d<|.sl 2<|List.map ze x.Msg.Log.Image.Cells,.d<|.sl 3<|List.map zg x.Msg.Log.Image.Seats,.d<|.sl 5<|List.map zf x.Msg.Log.Entries]
end Go.AW
