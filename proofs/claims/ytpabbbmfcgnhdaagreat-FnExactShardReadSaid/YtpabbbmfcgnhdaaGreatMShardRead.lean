/- Plain functions that say what functions of the program compute. Conditions: none. -/
import Derived.Test.YtpabbbmfcgnhdaaGreatYs
import Derived.Test.YtpabbbmfcgnhdaaGreatYi
set_option linter.unusedVariables false
set_option linter.unusedSimpArgs false
set_option maxRecDepth 100000
namespace Go.AW
structure zm where
 Lo:Int
 Hi:Int
deriving DecidableEq
def xz(x:zm):Prop:=inK .i64 x.Lo∧inK .i64 x.Hi
structure zr where
 Key:Int
 Value:Int
deriving DecidableEq
def kt(x:zr):Prop:=inK .i64 x.Key∧inK .i64 x.Value
structure zu where
 Tx:Int
 Lo:Int
 Hi:Int
 Mode:Int
deriving DecidableEq
def zc7(x:zu):Prop:=inK .i64 x.Tx∧inK .i64 x.Lo∧inK .i64 x.Hi∧inK .i64 x.Mode
structure zP where
 Tx:Int
 Writes:(List zr)
deriving DecidableEq
def KM(x:zP):Prop:=inK .i64 x.Tx∧okS kt x.Writes
structure zt where
 Me:Int
 Own:(List zm)
 Frozen:(List zm)
 Cells:(List zr)
 Locks:(List zu)
 Helds:(List zP)
 Wounded:(List Int)
 Ended:(List Int)
 Rank:Int
deriving DecidableEq
def zbs(x:zt):Prop:=inK .i64 x.Me∧okS xz x.Own∧okS xz x.Frozen∧okS kt x.Cells∧okS zc7 x.Locks∧okS KM x.Helds∧okS (inK .i64) x.Wounded∧okS (inK .i64) x.Ended∧inK .i64 x.Rank
abbrev zd(x:zm):List D:=[.int .i64 x.Lo,.int .i64 x.Hi]
abbrev zi(x:zr):List D:=[.int .i64 x.Key,.int .i64 x.Value]
abbrev zk(x:zu):List D:=[.int .i64 x.Tx,.int .i64 x.Lo,.int .i64 x.Hi,.int .i64 x.Mode]
abbrev zx(x:zP):List D:=[.int .i64 x.Tx,.sl 2<|List.map zi x.Writes]
abbrev zl(x:Int):List D:=[.int .i64 x]
abbrev zT(x:zt):List D:=[.int .i64 x.Me,.sl 2<|List.map zd x.Own,.sl 2<|List.map zd x.Frozen,.sl 2<|List.map zi x.Cells,.sl 4<|List.map zk x.Locks,.sl 2<|List.map zx x.Helds,.sl 1<|List.map zl x.Wounded,.sl 1<|List.map zl x.Ended,.int .i64 x.Rank]
abbrev yj(x:List Int):List D:=[.sl 1 (List.map zl x)]
abbrev zaF(x:Bool):List D:=[.bool x]
abbrev zel(x:List zr):List D:=[.sl 2 (List.map zi x)]
abbrev zj7(x:List zP):List D:=[.sl 2 (List.map zx x)]
abbrev zke(x:List zu):List D:=[.sl 4 (List.map zk x)]
abbrev zfA(x:List zm):List D:=[.sl 2 (List.map zd x)]
def Qc(a:List zm)(b:Int):Option Int:=
 if (IntKind.wrap .i64 (b - (a.length:Int))) < 0 then some (-1) else some (IntKind.wrap .i64 (b - (a.length:Int)))
def Yx(a:List zr)(b:Int):Option Int:=
 if (IntKind.wrap .i64 (b - (a.length:Int))) < 0 then some (-1) else some (IntKind.wrap .i64 (b - (a.length:Int)))
def YJ(a:List zu)(b:Int):Option Int:=
 if (IntKind.wrap .i64 (b - (a.length:Int))) < 0 then some (-1) else some (IntKind.wrap .i64 (b - (a.length:Int)))
def JX(a:List zr)(b:Int):Option Int:=
 if (IntKind.wrap .i64 (b - (a.length:Int))) < 0 then some (-1) else some (IntKind.wrap .i64 (b - (a.length:Int)))
def ka(b:zP)(c:Int):Option Int:=
 (JX b.Writes c).bind fun a=>(if a < 0 then some (-1) else some a)
def kQ(a:Int):Option Int:=
 some a
def kH(e:List zP)(c:Int→Option Int)(d:(Int×Int)→Option Int)(a:Int×Int):Option Int:=
 if a.2 < (e.length:Int) then (idx e a.2).bind fun f=>((ka f a.1).bind fun b=>(if b < 0 then some (-1) else d (b,IntKind.wrap .i64 (a.2+1)))) else c a.1
def YR(a:List zP)(b:Int):Option Int:=
 if (IntKind.wrap .i64 (b - (a.length:Int))) < 0 then some (-1) else iter (kH a kQ) FU (IntKind.wrap .i64 (b - (a.length:Int)),0)
def J1(a:List Int)(b:Int):Option Int:=
 if (IntKind.wrap .i64 (b - (a.length:Int))) < 0 then some (-1) else some (IntKind.wrap .i64 (b - (a.length:Int)))
def YT(a:zt)(i:Int):Option Int:=
 (Qc a.Own i).bind fun f=>(if f < 0 then some (-1) else (Qc a.Frozen f).bind fun g=>(if g < 0 then some (-1) else (Yx a.Cells g).bind fun h=>(if h < 0 then some (-1) else (YJ a.Locks h).bind fun b=>(if b < 0 then some (-1) else (YR a.Helds b).bind fun c=>(if c < 0 then some (-1) else (J1 a.Wounded c).bind fun d=>(if d < 0 then some (-1) else (J1 a.Ended d).bind fun e=>(if e < 0 then some (-1) else some e)))))))
def y0(a:zm):Option zm:=
 some a
def xB(a:List zm):Option (List zm):=
 some a
def xG(e:List zm)(b:List zm→Option (List zm))(c:(List zm×Int)→Option (List zm))(a:List zm×Int):Option (List zm):=
 if a.2 < (e.length:Int) then (idx e a.2).bind fun f=>((y0 f).bind fun d=>(idx a.1 a.2).bind fun g=>c (a.1.set (Int.toNat a.2) d,IntKind.wrap .i64 (a.2+1))) else b a.1
def Qj(a:List zm):Option (List zm):=
 if 0≤(a.length:Int)∧(a.length:Int)≤2147483648 then iter (xG a xB) FU (List.replicate (Int.toNat (a.length:Int))<|zm.mk 0 0,0) else none
def KE(a:zr):Option zr:=
 some a
def kY(a:List zr):Option (List zr):=
 some a
def kL(e:List zr)(b:List zr→Option (List zr))(c:(List zr×Int)→Option (List zr))(a:List zr×Int):Option (List zr):=
 if a.2 < (e.length:Int) then (idx e a.2).bind fun f=>((KE f).bind fun d=>(idx a.1 a.2).bind fun g=>c (a.1.set (Int.toNat a.2) d,IntKind.wrap .i64 (a.2+1))) else b a.1
def Yy(a:List zr):Option (List zr):=
 if 0≤(a.length:Int)∧(a.length:Int)≤2147483648 then iter (kL a kY) FU (List.replicate (Int.toNat (a.length:Int))<|zr.mk 0 0,0) else none
def KH(a:zu):Option zu:=
 some a
def kD(a:List zu):Option (List zu):=
 some a
def k9(e:List zu)(b:List zu→Option (List zu))(c:(List zu×Int)→Option (List zu))(a:List zu×Int):Option (List zu):=
 if a.2 < (e.length:Int) then (idx e a.2).bind fun f=>((KH f).bind fun d=>(idx a.1 a.2).bind fun g=>c (a.1.set (Int.toNat a.2) d,IntKind.wrap .i64 (a.2+1))) else b a.1
def YH(a:List zu):Option (List zu):=
 if 0≤(a.length:Int)∧(a.length:Int)≤2147483648 then iter (k9 a kD) FU (List.replicate (Int.toNat (a.length:Int))<|zu.mk 0 0 0 0,0) else none
def XE(a:zr):Option zr:=
 some a
def xc(a:List zr):Option (List zr):=
 some a
def xk(e:List zr)(b:List zr→Option (List zr))(c:(List zr×Int)→Option (List zr))(a:List zr×Int):Option (List zr):=
 if a.2 < (e.length:Int) then (idx e a.2).bind fun f=>((XE f).bind fun d=>(idx a.1 a.2).bind fun g=>c (a.1.set (Int.toNat a.2) d,IntKind.wrap .i64 (a.2+1))) else b a.1
def JQ(a:List zr):Option (List zr):=
 if 0≤(a.length:Int)∧(a.length:Int)≤2147483648 then iter (xk a xc) FU (List.replicate (Int.toNat (a.length:Int))<|zr.mk 0 0,0) else none
def kf(a:zP):Option zP:=
 (JQ a.Writes).bind fun b=>(some<|zP.mk a.Tx b)
def kT(a:List zP):Option (List zP):=
 some a
def kW(e:List zP)(b:List zP→Option (List zP))(c:(List zP×Int)→Option (List zP))(a:List zP×Int):Option (List zP):=
 if a.2 < (e.length:Int) then (idx e a.2).bind fun f=>((kf f).bind fun d=>(idx a.1 a.2).bind fun g=>c (a.1.set (Int.toNat a.2) d,IntKind.wrap .i64 (a.2+1))) else b a.1
def YF(a:List zP):Option (List zP):=
 if 0≤(a.length:Int)∧(a.length:Int)≤2147483648 then iter (kW a kT) FU (List.replicate (Int.toNat (a.length:Int))<|zP.mk 0 ([]:List zr),0) else none
def X1(a:List Int):Option (List Int):=
 some a
def XA(d:List Int)(b:List Int→Option (List Int))(c:(List Int×Int)→Option (List Int))(a:List Int×Int):Option (List Int):=
 if a.2 < (d.length:Int) then (idx d a.2).bind fun e=>((idx a.1 a.2).bind fun f=>c (a.1.set (Int.toNat a.2) e,IntKind.wrap .i64 (a.2+1))) else b a.1
def J8(a:List Int):Option (List Int):=
 if 0≤(a.length:Int)∧(a.length:Int)≤2147483648 then iter (XA a X1) FU (List.replicate (Int.toNat (a.length:Int)) 0,0) else none
def Zf(a:zt):Option zt:=
 (Qj a.Own).bind fun e=>((Qj a.Frozen).bind fun f=>(Yy a.Cells).bind fun g=>(YH a.Locks).bind fun h=>(YF a.Helds).bind fun b=>(J8 a.Wounded).bind fun c=>(J8 a.Ended).bind fun d=>some (zt.mk a.Me e f g h b c d a.Rank))
def Zb(a:Int)(b:Int)(c:Int):Option Bool:=
 if b≤a then some (decide (a≤c)) else some false
def qT(a:zm):Option Bool:=
 if 0≤a.Lo then if a.Lo < a.Hi then some (decide (a.Hi≤1000)) else some false else some false
def Kp(a:Unit):Option Bool:=
 some true
def ZQ(a:Int→Option Bool)(b:Int)(c:Bool):Option Bool:=
 if c=true then some false else a (IntKind.wrap .i64 (b+1))
def xo(c:List zm)(d:Unit→Option Bool)(b:Int→Option Bool)(a:Int):Option Bool:=
 if a < (c.length:Int) then (idx c a).bind fun e=>((qT e).bind fun f=>(if f=true then if 0 < a then (idx c a).bind fun g=>((idx c<|IntKind.wrap .i64 (a - 1)).bind fun h=>(ZQ b a) (decide (g.Lo < h.Hi))) else (ZQ b a) false else (ZQ b a) true)) else d ()
def Zp(a:List zm):Option Bool:=
 if 16 < (a.length:Int) then some false else iter (xo a Kp) FU 0
def J9(a:Int):Option Bool:=
 (Zb a 0 999).bind fun b=>(some b)
def YV(a:Int):Option Bool:=
 (Zb a 0 1000000000).bind fun b=>(some b)
def K7(a:Unit):Option Bool:=
 some true
def Zx(a:Int→Option Bool)(b:Int)(c:Bool):Option Bool:=
 if c=true then some false else a (IntKind.wrap .i64 (b+1))
def kO(c:List zr)(d:Unit→Option Bool)(b:Int→Option Bool)(a:Int):Option Bool:=
 if a < (c.length:Int) then (idx c a).bind fun e=>((J9 e.Key).bind fun f=>(if f=true then (idx c a).bind fun g=>((YV g.Value).bind fun h=>(if h=true then if 0 < a then (idx c<|IntKind.wrap .i64 (a - 1)).bind fun i=>((idx c a).bind fun j=>(Zx b a) (decide (j.Key≤i.Key))) else (Zx b a) false else (Zx b a) true)) else (Zx b a) true)) else d ()
def Z3(a:List zr):Option Bool:=
 if 60 < (a.length:Int) then some false else iter (kO a K7) FU 0
def ZL(a:Int):Option Bool:=
 (Zb a 1 60).bind fun b=>(some b)
def jL(a:zu):Option zm:=
 some (zm.mk a.Lo a.Hi)
def Ja(a:Int):Option Bool:=
 if a=1 then some true else some (decide (a=2))
def X4(a:Int)(b:Int):Option Int:=
 if b < a then some a else some b
def X2(a:Int)(b:Int):Option Int:=
 if a < b then some a else some b
def Zh(a:Int)(b:Int)(c:Bool):Option (zm×Bool):=
 if c=true then some (zm.mk 0 0,false) else some (zm.mk a b,true)
def ZV(c:zm)(d:zm):Option (zm×Bool):=
 (X4 c.Lo d.Lo).bind fun a=>((X2 c.Hi d.Hi).bind fun b=>(qT c).bind fun e=>(if e=true then (qT d).bind fun f=>(if f=true then (qT<|zm.mk a b).bind fun g=>((Zh a b) (!g)) else (Zh a b) true) else (Zh a b) true))
def Qh(a:zu)(b:zu):Option Bool:=
 (jL a).bind fun c=>((jL b).bind fun d=>(ZV c d).bind fun e=>(if e.2=true then if ¬a.Tx=b.Tx then if a.Mode=2 then some true else some (decide (b.Mode=2)) else some false else some false))
def K0(a:Unit):Option Bool:=
 some true
def Zq(a:Int→Option Bool)(b:Int)(c:Unit):Option Bool:=
 a (IntKind.wrap .i64 (b+1))
def xH(g:Int)(h:List zu)(c:Unit→Option Bool)(b:Int→Option Bool)(a:Int):Option Bool:=
 if a < g then (idx h g).bind fun d=>((idx h a).bind fun e=>(Qh d e).bind fun f=>(if f=true then some false else b (IntKind.wrap .i64 (a+1)))) else c ()
def ZP(c:Int)(d:List zu)(a:Unit→Option Bool)(b:Bool):Option Bool:=
 if b=true then some false else iter (xH c d a) FU 0
def kA(b:List zu)(d:Unit→Option Bool)(c:Int→Option Bool)(a:Int):Option Bool:=
 if a < (b.length:Int) then (idx b a).bind fun e=>((ZL e.Tx).bind fun f=>(if f=true then (idx b a).bind fun g=>((jL g).bind fun h=>(qT h).bind fun i=>(if i=true then (idx b a).bind fun j=>((Ja j.Mode).bind fun k=>(ZP a b<|Zq c a) (!k)) else (ZP a b<|Zq c a) true)) else (ZP a b<|Zq c a) true)) else d ()
def Jh(a:List zu):Option Bool:=
 if 40 < (a.length:Int) then some false else iter (kA a K0) FU 0
def zaD(a:Unit):Option Bool:=
 some true
def QV(a:Int→Option Bool)(b:Int)(c:Bool):Option Bool:=
 if c=true then some false else a (IntKind.wrap .i64 (b+1))
def XJ(c:List Int)(d:Unit→Option Bool)(b:Int→Option Bool)(a:Int):Option Bool:=
 if a < (c.length:Int) then (idx c a).bind fun e=>((ZL e).bind fun f=>(if f=true then if 0 < a then (idx c<|IntKind.wrap .i64 (a - 1)).bind fun g=>((idx c a).bind fun h=>(QV b a) (decide (h≤g))) else (QV b a) false else (QV b a) true)) else d ()
def J4(a:List Int):Option Bool:=
 iter (XJ a zaD) FU 0
def JL(a:zm)(b:Int):Option Bool:=
 some (decide (a.Hi≤b))
def ZD(e:List zm)(b:Int×Int)(a:(Int×Int)→Option Bool)(c:Bool):Option Bool:=
 if c=true then (idx e b.2).bind fun d=>(a (d.Hi,IntKind.wrap .i64 (b.2+1))) else a (b.1,IntKind.wrap .i64 (b.2+1))
def Jq(b:List zm)(d:Int→Option Bool)(c:(Int×Int)→Option Bool)(a:Int×Int):Option Bool:=
 if a.2 < (b.length:Int) then (idx b a.2).bind fun e=>(if e.Lo≤a.1 then (idx b a.2).bind fun f=>((ZD b a c)<|decide (a.1 < f.Hi)) else (ZD b a c) false) else d a.1
def yu(b:List zm)(a:zm)(c:Bool):Option Bool:=
 if c=true then some false else iter (Jq b<|JL a) FU (a.Lo,0)
def jR(a:List zm)(b:zm):Option Bool:=
 (Zp a).bind fun c=>(if c=true then (qT b).bind fun d=>((yu a b) (!d)) else (yu a b) true)
def ko(a:Int):Option zm:=
 some (zm.mk a<|IntKind.wrap .i64 (a+1))
def Xx(a:Unit):Option Bool:=
 some false
def XQ(d:List Int)(e:Int)(a:Unit→Option Bool)(b:Int→Option Bool)(c:Int):Option Bool:=
 if c < (d.length:Int) then (idx d c).bind fun f=>(if f=e then some true else b (IntKind.wrap .i64 (c+1))) else a ()
def j3(a:List Int)(b:Int):Option Bool:=
 iter (XQ a b Xx) FU 0
def Kc(a:Unit):Option Bool:=
 some true
def yR(a:Int→Option Bool)(b:Int)(c:Bool):Option Bool:=
 if c=true then some false else a (IntKind.wrap .i64 (b+1))
def xE(c:List zr)(d:Unit→Option Bool)(b:Int→Option Bool)(a:Int):Option Bool:=
 if a < (c.length:Int) then (idx c a).bind fun e=>((J9 e.Key).bind fun f=>(if f=true then (idx c a).bind fun g=>((Zb g.Value (-1) 1000000000).bind fun h=>(if h=true then if 0 < a then (idx c<|IntKind.wrap .i64 (a - 1)).bind fun i=>((idx c a).bind fun j=>(yR b a) (decide (j.Key≤i.Key))) else (yR b a) false else (yR b a) true)) else (yR b a) true)) else d ()
def Zo(a:List zr):Option Bool:=
 if 60 < (a.length:Int) then some false else iter (xE a Kc) FU 0
def YG(a:zm)(b:zm):Option Bool:=
 (qT a).bind fun c=>(if c=true then (qT b).bind fun d=>(if d=true then if b.Lo≤a.Lo then some (decide (a.Hi≤b.Hi)) else some false else some false) else some false)
def Kb(a:Unit):Option Bool:=
 some false
def Zi(a:Int→Option Bool)(c:Int)(b:Bool):Option Bool:=
 if b=true then some true else a (IntKind.wrap .i64 (c+1))
def xq(c:List zu)(j:Int)(k:zm)(l:Int)(d:Unit→Option Bool)(a:Int→Option Bool)(b:Int):Option Bool:=
 if b < (c.length:Int) then (idx c b).bind fun e=>(if e.Tx=j then (idx c b).bind fun f=>((jL f).bind fun g=>(YG k g).bind fun h=>(if h=true then (idx c b).bind fun i=>((Zi a b)<|decide (l≤i.Mode)) else (Zi a b) false)) else (Zi a b) false) else d ()
def Zn(a:List zu)(b:Int)(c:zm)(d:Int):Option Bool:=
 iter (xq a b c d Kb) FU 0
def Xf(a:Unit):Option Bool:=
 some true
def jg(a:Int→Option Bool)(b:Int)(c:Unit):Option Bool:=
 a (IntKind.wrap .i64 (b+1))
def ZA(a:Unit→Option Bool)(b:Bool):Option Bool:=
 if b=true then some false else a ()
def QJ(d:zt)(e:zP)(a:Unit→Option Bool)(f:Unit):Option Bool:=
 (j3 d.Wounded e.Tx).bind fun b=>(if b=true then (ZA a) true else (j3 d.Ended e.Tx).bind fun c=>(ZA a) c)
def QH(d:zP)(h:zt)(b:Unit→Option Bool)(c:Int→Option Bool)(a:Int):Option Bool:=
 if a < (d.Writes.length:Int) then (idx d.Writes a).bind fun e=>((ko e.Key).bind fun f=>(Zn h.Locks d.Tx f 2).bind fun g=>(if g=true then c (IntKind.wrap .i64 (a+1)) else some false)) else b ()
def jm(c:zP)(d:zt)(a:Unit→Option Bool)(b:Bool):Option Bool:=
 if b=true then some false else iter (QH c d<|QJ d c a) FU 0
def JE(d:zt)(e:Unit→Option Bool)(a:Int→Option Bool)(b:Int):Option Bool:=
 if b < (d.Helds.length:Int) then (idx d.Helds b).bind fun c=>((ZL c.Tx).bind fun f=>(if f=true then if 0 < b then (idx d.Helds<|IntKind.wrap .i64 (b - 1)).bind fun g=>(if c.Tx≤g.Tx then (jm c d<|jg a b) true else (Zo c.Writes).bind fun h=>(jm c d<|jg a b) (!h)) else (Zo c.Writes).bind fun i=>((jm c d<|jg a b) (!i)) else (jm c d<|jg a b) true)) else e ()
def Qo(a:zt):Option Bool:=
 iter (JE a Xf) FU 0
def zaI(a:Unit):Option Int:=
 some (-1)
def XR(b:List zr)(f:Int)(c:Unit→Option Int)(d:Int→Option Int)(a:Int):Option Int:=
 if a < (b.length:Int) then (idx b a).bind fun g=>(if g.Key=f then (idx b a).bind fun e=>(some e.Value) else d (IntKind.wrap .i64 (a+1))) else c ()
def km(a:List zr)(b:Int):Option Int:=
 iter (XR a b zaI) FU 0
def xJ(a:Int):Option Int:=
 some a
def Qs(a:(Int×Int)→Option Int)(b:Int×Int)(c:Bool):Option Int:=
 if c=true then a (IntKind.wrap .i64 (b.1+1),IntKind.wrap .i64 (b.2+1)) else a (b.1,IntKind.wrap .i64 (b.2+1))
def xi(c:List zr)(h:List zr)(d:Int→Option Int)(b:(Int×Int)→Option Int)(a:Int×Int):Option Int:=
 if a.2 < (c.length:Int) then (idx c a.2).bind fun e=>(if 0≤e.Value then (idx c a.2).bind fun f=>((km h f.Key).bind fun g=>(Qs b a) (decide (g < 0))) else (Qs b a) false) else d a.1
def Jc(a:List zr)(b:List zr)(c:Bool):Option Int:=
 if c=true then some (-1) else iter (xi a b xJ) FU (0,0)
def JY(a:List zr)(b:List zr):Option Int:=
 (Z3 a).bind fun c=>(if c=true then (Zo b).bind fun d=>((Jc b a) (!d)) else (Jc b a) true)
def X0(a:Int):Option Int:=
 some a
def XV(b:zt)(c:Int→Option Int)(d:(Int×Int)→Option Int)(a:Int×Int):Option Int:=
 if a.2 < (b.Helds.length:Int) then (idx b.Helds a.2).bind fun e=>((JY b.Cells e.Writes).bind fun f=>d (IntKind.wrap .i64 (a.1+f),IntKind.wrap .i64 (a.2+1))) else c a.1
def kc(a:zt):Option Int:=
 iter (XV a X0) FU (0,0)
def QP(a:zt)(d:Unit):Option Bool:=
 (Qo a).bind fun b=>(if b=true then (kc a).bind fun c=>(some<|decide ((IntKind.wrap .i64 ((a.Cells.length:Int)+c))≤60)) else some false)
def xd(d:zt)(b:Unit→Option Bool)(c:Int→Option Bool)(a:Int):Option Bool:=
 if a < (d.Wounded.length:Int) then (idx d.Wounded a).bind fun e=>((j3 d.Ended e).bind fun f=>(if f=true then some false else c (IntKind.wrap .i64 (a+1)))) else b ()
def Q2(a:zt)(b:Unit):Option Bool:=
 iter (xd a<|QP a) FU 0
def ZX(a:Int→Option Bool)(b:Int)(c:Bool):Option Bool:=
 if c=true then some false else a (IntKind.wrap .i64 (b+1))
def xg(d:zt)(e:Unit→Option Bool)(a:Int→Option Bool)(b:Int):Option Bool:=
 if b < (d.Locks.length:Int) then (idx d.Locks b).bind fun c=>((jL c).bind fun f=>(jR d.Own f).bind fun g=>(if g=true then (j3 d.Wounded c.Tx).bind fun h=>(if h=true then (ZX a b) true else (j3 d.Ended c.Tx).bind fun i=>(ZX a b) i) else (ZX a b) true)) else e ()
def Jg(a:zt)(b:Unit):Option Bool:=
 iter (xg a<|Q2 a) FU 0
def xR(d:zt)(b:Unit→Option Bool)(c:Int→Option Bool)(a:Int):Option Bool:=
 if a < (d.Cells.length:Int) then (idx d.Cells a).bind fun e=>((ko e.Key).bind fun f=>(jR d.Own f).bind fun g=>(if g=true then c (IntKind.wrap .i64 (a+1)) else some false)) else b ()
def JW(a:zt)(b:Unit):Option Bool:=
 iter (xR a<|Jg a) FU 0
def xA(c:zt)(d:Unit→Option Bool)(b:Int→Option Bool)(a:Int):Option Bool:=
 if a < (c.Frozen.length:Int) then (idx c.Frozen a).bind fun e=>((jR c.Own e).bind fun f=>(if f=true then b (IntKind.wrap .i64 (a+1)) else some false)) else d ()
def jZ(a:zt)(b:Bool):Option Bool:=
 if b=true then some false else iter (xA a<|JW a) FU 0
def jY(a:zt)(d:Bool):Option Bool:=
 if d=true then some false else if 60 < (a.Helds.length:Int) then (jZ a) true else if 60 < (a.Wounded.length:Int) then (jZ a) true else if 60 < (a.Ended.length:Int) then (jZ a) true else (J4 a.Wounded).bind fun b=>(if b=true then (J4 a.Ended).bind fun c=>((jZ a) (!c)) else (jZ a) true)
def YA(a:zt):Option Bool:=
 (Zb a.Me 0 3).bind fun b=>(if b=true then (Zp a.Own).bind fun c=>(if c=true then (Zp a.Frozen).bind fun d=>(if d=true then (Z3 a.Cells).bind fun e=>(if e=true then (Jh a.Locks).bind fun f=>(if f=true then (Zb a.Rank 0 1000000).bind fun g=>((jY a) (!g)) else (jY a) true) else (jY a) true) else (jY a) true) else (jY a) true) else (jY a) true)
def k8(a:zt)(b:List zP):Option zt:=
 if a.Wounded.length≤2147483648 then if a.Ended.length≤2147483648 then some (zt.mk a.Me a.Own a.Frozen a.Cells a.Locks b a.Wounded a.Ended a.Rank) else none else none
def xF(e:zt)(d:List zP→Option zt)(c:(Int×List zP)→Option zt)(a:Int×List zP):Option zt:=
 if a.1 < (e.Helds.length:Int) then (idx e.Helds a.1).bind fun b=>(if b.Writes.length≤2147483648 then if (a.2++[b]).length≤2147483648 then c (IntKind.wrap .i64 (a.1+1),a.2++[b]) else none else none) else d a.2
def YC(a:zt):Option zt:=
 if a.Own.length≤2147483648 then if a.Frozen.length≤2147483648 then if a.Cells.length≤2147483648 then if a.Locks.length≤2147483648 then iter (xF a<|k8 a) FU (0,([]:List zP)) else none else none else none else none
def kZ(a:Unit):Option Bool:=
 some false
def kI(d:zt)(e:Int)(a:Unit→Option Bool)(b:Int→Option Bool)(c:Int):Option Bool:=
 if c < (d.Helds.length:Int) then (idx d.Helds c).bind fun f=>(if f.Tx=e then some true else b (IntKind.wrap .i64 (c+1))) else a ()
def Y3(a:zt)(b:Int):Option Bool:=
 iter (kI a b kZ) FU 0
def Kq(a:Unit):Option Bool:=
 some false
def xU(e:List zm)(f:zm)(a:Unit→Option Bool)(b:Int→Option Bool)(c:Int):Option Bool:=
 if c < (e.length:Int) then (idx e c).bind fun g=>((ZV g f).bind fun d=>(if d.2=true then some true else b (IntKind.wrap .i64 (c+1)))) else a ()
def JR(a:List zm)(b:zm):Option Bool:=
 iter (xU a b Kq) FU 0
def YK(a:zt)(b:zm):Option Bool:=
 (jR a.Own b).bind fun c=>(if c=true then (JR a.Frozen b).bind fun d=>(some (!d)) else some false)
def JJ(a:List Int):Option (List Int):=
 some a
def Js(d:zt)(b:List Int→Option (List Int))(c:(List Int×Int)→Option (List Int))(a:List Int×Int):Option (List Int):=
 if a.2 < (d.Helds.length:Int) then (idx d.Helds a.2).bind fun e=>(if (a.1++([e.Tx])).length≤2147483648 then c (a.1++([e.Tx]),IntKind.wrap .i64 (a.2+1)) else none) else b a.1
def Qu(a:zt):Option (List Int):=
 iter (Js a JJ) FU (([]:List Int),0)
def Qg(d:List zu)(e:List Int)(f:Int)(g:zm)(h:Int):Option Bool:=
 (Jh d).bind fun i=>(if i=true then if (e.length:Int)≤60 then (ZL f).bind fun a=>(if a=true then (qT g).bind fun b=>(if b=true then (Ja h).bind fun c=>(some c) else some false) else some false) else some false else some false)
def XM(b:Int)(a:List Int×Bool):Option (List Int):=
 if a.2=true then some a.1 else if (a.1++([b])).length≤2147483648 then some (a.1++([b])) else none
def Qe(f:List Int)(d:List Int×Bool×Int)(g:Int)(b:(List Int×Bool×Int)→Option (List Int))(a:List Int×Bool):Option (List Int):=
 (idx f d.2.2).bind fun e=>(if ¬e=g then (idx f d.2.2).bind fun c=>(if (a.1++([c])).length≤2147483648 then b (a.1++([c]),a.2,IntKind.wrap .i64 (d.2.2+1)) else none) else b (a.1,a.2,IntKind.wrap .i64 (d.2.2+1)))
def J0(b:List Int×Bool×Int)(d:Int)(a:(List Int×Bool)→Option (List Int))(c:Bool):Option (List Int):=
 if c=true then if (b.1++([d])).length≤2147483648 then a (b.1++([d]),true) else none else a (b.1,b.2.1)
def XN(d:List Int)(b:Int)(e:(List Int×Bool)→Option (List Int))(c:(List Int×Bool×Int)→Option (List Int))(a:List Int×Bool×Int):Option (List Int):=
 if a.2.2 < (d.length:Int) then if a.2.1=true then (J0 a b<|Qe d a b c) false else (idx d a.2.2).bind fun f=>((J0 a b<|Qe d a b c)<|decide (b≤f)) else e (a.1,a.2.1)
def J6(b:List Int)(a:Int):Option (List Int):=
 iter (XN b a<|XM a) FU (([]:List Int),false,0)
def kV(a:List Int):Option (List Int):=
 some a
def Xd(c:List zu)(h:zu)(d:List Int→Option (List Int))(b:(List Int×Int)→Option (List Int))(a:List Int×Int):Option (List Int):=
 if a.2 < (c.length:Int) then (idx c a.2).bind fun i=>((Qh i h).bind fun e=>(if e=true then (idx c a.2).bind fun f=>((J6 a.1 f.Tx).bind fun g=>b (g,IntKind.wrap .i64 (a.2+1))) else b (a.1,IntKind.wrap .i64 (a.2+1)))) else d a.1
def Q3(a:List zu)(b:zu):Option (List Int):=
 iter (Xd a b kV) FU (([]:List Int),0)
def ZF(a:List Int):Option (List Int):=
 some a
def ZB(e:List Int)(a:List Int×Int)(b:(List Int×Int)→Option (List Int))(d:Bool):Option (List Int):=
 if d=true then (idx e a.2).bind fun c=>(if (a.1++([c])).length≤2147483648 then b (a.1++([c]),IntKind.wrap .i64 (a.2+1)) else none) else b (a.1,IntKind.wrap .i64 (a.2+1))
def ZE(c:List Int)(h:Int)(i:List Int)(d:List Int→Option (List Int))(b:(List Int×Int)→Option (List Int))(a:List Int×Int):Option (List Int):=
 if a.2 < (c.length:Int) then (idx c a.2).bind fun e=>(if e < h then (ZB c a b) true else (idx c a.2).bind fun f=>(j3 i f).bind fun g=>(ZB c a b) g) else d a.1
def Z0(c:List zu)(a:Int)(b:zm)(d:Int)(e:List Int)(f:Bool):Option (List Int):=
 if f=true then some ([]:List Int) else (Q3 c<|zu.mk a b.Lo b.Hi d).bind fun g=>(iter (ZE g a e ZF) FU (([]:List Int),0))
def Qv(a:List zu)(e:List Int)(b:Int)(c:zm)(d:Int):Option (List Int):=
 (Qg a e b c d).bind fun f=>(if f=true then (Zn a b c d).bind fun g=>((Z0 a b c d e) g) else (Z0 a b c d e) true)
def Xa(a:List zu):Option (List zu):=
 some a
def kS(d:List zu)(f:Int)(g:Bool)(e:List zu→Option (List zu))(b:(List zu×Int)→Option (List zu))(a:List zu×Int):Option (List zu):=
 if a.2 < (d.length:Int) then (idx d a.2).bind fun h=>(if ((decide (h.Tx=f)) == g)=true then (idx d a.2).bind fun c=>(if (a.1++([c])).length≤2147483648 then b (a.1++([c]),IntKind.wrap .i64 (a.2+1)) else none) else b (a.1,IntKind.wrap .i64 (a.2+1))) else e a.1
def Q9(a:List zu)(b:Int)(c:Bool):Option (List zu):=
 iter (kS a b c Xa) FU (([]:List zu),0)
def Jl(d:List zu)(e:Int)(b:zm)(f:Int)(c:List Int)(a:List zu):Option (List zu×List Int×Int):=
 if ((a.length:Nat):Int)=40 then if d.length≤2147483648 then some (d,([]:List Int),3) else none else if (a++([zu.mk e b.Lo b.Hi f])).length≤2147483648 then some (a++([zu.mk e b.Lo b.Hi f]),c,0) else none
def Q5(b:List Int)(c:List zu→Option (List zu×List Int×Int))(d:(List zu×Int)→Option (List zu×List Int×Int))(a:List zu×Int):Option (List zu×List Int×Int):=
 if a.2 < ((b.length:Nat):Int) then (idx b a.2).bind fun e=>((Q9 a.1 e false).bind fun f=>d (f,IntKind.wrap .i64 (a.2+1))) else c a.1
def QY(a:List zu)(h:List Int)(c:Int)(b:zm)(d:Int):Option (List zu×List Int×Int):=
 (Qg a h c b d).bind fun i=>(if i=true then if a.length≤2147483648 then (Zn a c b d).bind fun f=>(if f=true then some (a,([]:List Int),0) else (Qv a h c b d).bind fun g=>(if 0 < (g.length:Int) then some (a,([]:List Int),2) else (Q3 a<|zu.mk c b.Lo b.Hi d).bind fun e=>iter (Q5 e<|Jl a c b d e) FU (a,0))) else none else some (([]:List zu),([]:List Int),1))
def zaG(a:Int):Option Int:=
 if a=2 then some 5 else if a=3 then some 6 else some 0
def xw(a:zt)(b:List zu×List Int):Option zt:=
 some (zt.mk a.Me a.Own a.Frozen a.Cells b.1 a.Helds b.2 a.Ended a.Rank)
def xK(b:List Int)(c:(List zu×List Int)→Option zt)(d:(Int×List zu×List Int)→Option zt)(a:Int×List zu×List Int):Option zt:=
 if a.1 < (b.length:Int) then (idx b a.1).bind fun h=>((Q9 a.2.1 h false).bind fun e=>(idx b a.1).bind fun f=>(J6 a.2.2 f).bind fun g=>d (IntKind.wrap .i64 (a.1+1),e,g)) else c (a.2.1,a.2.2)
def JT(a:zt)(b:List Int):Option zt:=
 iter (xK b<|xw a) FU (0,a.Locks,a.Wounded)
def Ql(a:List zr):Option (List zr):=
 some a
def Qm(e:List zr)(f:zm)(j:Bool)(b:List zr→Option (List zr))(c:(List zr×Int)→Option (List zr))(a:List zr×Int):Option (List zr):=
 if a.2 < (e.length:Int) then (Z3 e).bind fun k=>(if k=true then (qT f).bind fun g=>(if g=true then (idx e a.2).bind fun h=>((Zb h.Key f.Lo<|IntKind.wrap .i64 (f.Hi - 1)).bind fun i=>(if (i == j)=true then (idx e a.2).bind fun d=>(if (a.1++([d])).length≤2147483648 then c (a.1++([d]),IntKind.wrap .i64 (a.2+1)) else none) else c (a.1,IntKind.wrap .i64 (a.2+1)))) else b a.1) else b a.1) else b a.1
def Y6(a:List zr)(b:zm)(c:Bool):Option (List zr):=
 iter (Qm a b c Ql) FU (([]:List zr),0)
def Q7(a:List zr)(b:zm):Option (List zr):=
 (Y6 a b true).bind fun c=>(some c)
def Zk(a:zt)(c:zt)(k:Int)(d:zm)(l:Bool):Option (zt×List zr×Int):=
 if l=true then some (a,([]:List zr),2) else (j3 c.Wounded k).bind fun e=>(if e=true then some (a,([]:List zr),3) else (YK c d).bind fun f=>(if f=true then (Qu c).bind fun g=>((QY c.Locks g k d 1).bind fun b=>(if ¬b.2.2=0 then (zaG b.2.2).bind fun h=>(some (a,([]:List zr),h)) else (JT (zt.mk a.Me a.Own a.Frozen a.Cells b.1 a.Helds a.Wounded a.Ended a.Rank) b.2.1).bind fun i=>(Q7 c.Cells d).bind fun j=>some (i,j,0))) else some (a,([]:List zr),4)))
def yH(a:zt)(b:Int)(e:zm)(g:Bool):Option (zt×List zr×Int):=
 if g=true then some (zt.mk 0 ([]:List zm) ([]:List zm) ([]:List zr) ([]:List zu) ([]:List zP) ([]:List Int) ([]:List Int) 0,([]:List zr),1) else (YC a).bind fun f=>((j3 a.Ended b).bind fun c=>(if c=true then (Zk f a b e) true else (Y3 a b).bind fun d=>(Zk f a b e) d))
def Jj(a:zt)(b:Int)(c:zm):Option (zt×List zr×Int):=
 (YA a).bind fun d=>(if d=true then (ZL b).bind fun e=>(if e=true then (qT c).bind fun f=>((yH a b c) (!f)) else (yH a b c) true) else (yH a b c) true)
def Ze(a:Int)(b:Int)(c:Int):Option Bool:=
 if b≤a then some (decide (a≤c)) else some false
def YQ(a:Int):Option Bool:=
 (Ze a 0 3).bind fun b=>(some b)
def yp(a:zm):Option Bool:=
 if 0≤a.Lo then if a.Lo < a.Hi then some (decide (a.Hi≤1000)) else some false else some false
def xP(a:List zm)(b:Unit):Option Bool:=
 some (decide ((a.length:Int)≤16))
def ZW(a:Int→Option Bool)(b:Int)(c:Bool):Option Bool:=
 if c=true then some false else a (IntKind.wrap .i64 (b+1))
def xL(c:List zm)(d:Unit→Option Bool)(a:Int→Option Bool)(b:Int):Option Bool:=
 if b < (c.length:Int) then (idx c b).bind fun g=>((yp g).bind fun e=>(if e=true then if 0 < b then (idx c<|IntKind.wrap .i64 (b - 1)).bind fun f=>((ZW a b)<|decide (g.Lo < f.Hi)) else (ZW a b) false else (ZW a b) true)) else d ()
def Qf(a:List zm):Option Bool:=
 iter (xL a<|xP a) FU 0
def Y9(a:Int):Option Bool:=
 (Ze a 0 999).bind fun b=>(some b)
def YM(a:Int):Option Bool:=
 (Ze a 0 1000000000).bind fun b=>(some b)
def kM(a:List zr)(b:Unit):Option Bool:=
 some (decide ((a.length:Int)≤60))
def Zt(a:Int→Option Bool)(b:Int)(c:Bool):Option Bool:=
 if c=true then some false else a (IntKind.wrap .i64 (b+1))
def Xc(c:List zr)(d:Unit→Option Bool)(a:Int→Option Bool)(b:Int):Option Bool:=
 if b < (c.length:Int) then (idx c b).bind fun e=>((Y9 e.Key).bind fun f=>(if f=true then (YM e.Value).bind fun g=>(if g=true then if 0 < b then (idx c<|IntKind.wrap .i64 (b - 1)).bind fun h=>((Zt a b)<|decide (e.Key≤h.Key)) else (Zt a b) false else (Zt a b) true) else (Zt a b) true)) else d ()
def Z8(a:List zr):Option Bool:=
 iter (Xc a<|kM a) FU 0
def Jm(a:Int):Option Bool:=
 (Ze a 1 60).bind fun b=>(some b)
def jo(a:zu):Option zm:=
 some (zm.mk a.Lo a.Hi)
def QA(a:Int):Option Bool:=
 if a=1 then some true else some (decide (a=2))
def Jn(a:zm)(b:zm):Option Bool:=
 if a.Lo < b.Hi then some (decide (b.Lo < a.Hi)) else some false
def xe(a:zu)(b:zu):Option Bool:=
 if ¬a.Tx=b.Tx then if a.Mode=2 then (jo a).bind fun f=>((jo b).bind fun g=>(Jn f g).bind fun h=>some h) else if b.Mode=2 then (jo a).bind fun c=>((jo b).bind fun d=>(Jn c d).bind fun e=>some e) else some false else some false
def QX(a:zu)(b:zu):Option Bool:=
 (xe b a).bind fun c=>(some c)
def yl(a:Unit):Option Int:=
 some (-1)
def jw(e:List zu)(f:zu)(b:Unit→Option Int)(c:Int→Option Int)(a:Int):Option Int:=
 if a < (e.length:Int) then (idx e a).bind fun g=>((QX g f).bind fun d=>(if d=true then some a else c (IntKind.wrap .i64 (a+1)))) else b ()
def jI(a:List zu)(b:zu):Option Int:=
 iter (jw a b yl) FU 0
def qD(a:List zu)(b:zu):Option Bool:=
 (jI a b).bind fun c=>(some<|decide (0≤c))
def kU(a:List zu)(b:Unit):Option Bool:=
 some (decide ((a.length:Int)≤40))
def Zu(a:Int→Option Bool)(b:Int)(c:Bool):Option Bool:=
 if c=true then some false else a (IntKind.wrap .i64 (b+1))
def kB(d:List zu)(e:Unit→Option Bool)(a:Int→Option Bool)(b:Int):Option Bool:=
 if b < (d.length:Int) then (idx d b).bind fun c=>((Jm c.Tx).bind fun f=>(if f=true then (jo c).bind fun g=>((yp g).bind fun h=>(if h=true then (QA c.Mode).bind fun i=>(if i=true then (cut d 0 b).bind fun j=>((qD j c).bind fun k=>(Zu a b) k) else (Zu a b) true) else (Zu a b) true)) else (Zu a b) true)) else e ()
def Z6(a:List zu):Option Bool:=
 iter (kB a<|kU a) FU 0
def JZ(a:Int):Option Bool:=
 (Ze a (-1) 1000000000).bind fun b=>(some b)
def xb(a:List zr)(b:Unit):Option Bool:=
 some (decide ((a.length:Int)≤60))
def yT(a:Int→Option Bool)(b:Int)(c:Bool):Option Bool:=
 if c=true then some false else a (IntKind.wrap .i64 (b+1))
def xO(c:List zr)(d:Unit→Option Bool)(a:Int→Option Bool)(b:Int):Option Bool:=
 if b < (c.length:Int) then (idx c b).bind fun e=>((Y9 e.Key).bind fun f=>(if f=true then (JZ e.Value).bind fun g=>(if g=true then if 0 < b then (idx c<|IntKind.wrap .i64 (b - 1)).bind fun h=>((yT a b)<|decide (e.Key≤h.Key)) else (yT a b) false else (yT a b) true) else (yT a b) true)) else d ()
def Qd(a:List zr):Option Bool:=
 iter (xO a<|xb a) FU 0
def zav(a:Int):Option zm:=
 some (zm.mk a<|IntKind.wrap .i64 (a+1))
def Z7(a:zu)(c:Int)(d:Int)(b:zm):Option Bool:=
 if a.Tx=c then if a.Mode=d then if a.Lo≤b.Lo then some (decide (b.Hi≤a.Hi)) else some false else if a.Mode=2 then if a.Lo≤b.Lo then some (decide (b.Hi≤a.Hi)) else some false else some false else some false
def j4(a:Unit):Option Int:=
 some (-1)
def jh(f:List zu)(g:Int)(h:Int)(i:zm)(b:Unit→Option Int)(c:Int→Option Int)(a:Int):Option Int:=
 if a < (f.length:Int) then (idx f a).bind fun d=>((Z7 d g h i).bind fun e=>(if e=true then some a else c (IntKind.wrap .i64 (a+1)))) else b ()
def jj(a:List zu)(b:Int)(c:Int)(d:zm):Option Int:=
 iter (jh a b c d j4) FU 0
def qq(a:List zu)(b:Int)(c:Int)(d:zm):Option Bool:=
 (jj a b c d).bind fun e=>(some<|decide (0≤e))
def yQ(c:List zu)(f:Int)(d:zm)(e:Int):Option Bool:=
 (Z6 c).bind fun g=>(if g=true then (yp d).bind fun h=>(if h=true then (QA e).bind fun a=>(if a=true then (qq c f e d).bind fun b=>(some b) else some false) else some false) else some false)
def QM(a:zr)(b:zt)(c:zP):Option Bool:=
 (zav a.Key).bind fun d=>((yQ b.Locks c.Tx d 2).bind fun e=>some (!e))
def yf(a:Unit):Option Int:=
 some (-1)
def jk(e:List zr)(f:zt)(g:zP)(b:Unit→Option Int)(c:Int→Option Int)(a:Int):Option Int:=
 if a < (e.length:Int) then (idx e a).bind fun h=>((QM h f g).bind fun d=>(if d=true then some a else c (IntKind.wrap .i64 (a+1)))) else b ()
def jy(a:List zr)(b:zt)(c:zP):Option Int:=
 iter (jk a b c yf) FU 0
def qu(a:List zr)(b:zt)(c:zP):Option Bool:=
 (jy a b c).bind fun d=>(some<|decide (0≤d))
def Kz(a:List Int):Option (List Int):=
 some a
def KD(d:List zP)(b:List Int→Option (List Int))(c:(List Int×Int)→Option (List Int))(a:List Int×Int):Option (List Int):=
 if a.2 < (d.length:Int) then (idx d a.2).bind fun e=>(if (a.1++([e.Tx])).length≤2147483648 then c (a.1++([e.Tx]),IntKind.wrap .i64 (a.2+1)) else none) else b a.1
def yZ(a:List zP):Option (List Int):=
 iter (KD a Kz) FU (([]:List Int),0)
def XB(a:Unit):Option Bool:=
 some true
def Zj(a:Int→Option Bool)(b:Int)(c:Bool):Option Bool:=
 if c=true then some false else a (IntKind.wrap .i64 (b+1))
def Yf(c:List Int)(d:Unit→Option Bool)(a:Int→Option Bool)(b:Int):Option Bool:=
 if b < (c.length:Int) then (idx c b).bind fun g=>((Jm g).bind fun e=>(if e=true then if 0 < b then (idx c<|IntKind.wrap .i64 (b - 1)).bind fun f=>((Zj a b)<|decide (g≤f)) else (Zj a b) false else (Zj a b) true)) else d ()
def yU(a:List Int):Option Bool:=
 iter (Yf a XB) FU 0
def kX(a:zt)(d:Unit):Option Bool:=
 (yZ a.Helds).bind fun b=>((yU b).bind fun c=>some c)
def Q8(a:Int→Option Bool)(c:Int)(b:Bool):Option Bool:=
 if b=true then some false else a (IntKind.wrap .i64 (c+1))
def kK(d:zt)(e:Unit→Option Bool)(b:Int→Option Bool)(c:Int):Option Bool:=
 if c < (d.Helds.length:Int) then (idx d.Helds c).bind fun a=>((Qd a.Writes).bind fun f=>(if f=true then (qu a.Writes d a).bind fun g=>((Q8 b c) g) else (Q8 b c) true)) else e ()
def YO(a:zt):Option Bool:=
 iter (kK a<|kX a) FU 0
def kC(a:zm)(b:Int):Option Bool:=
 some (decide (a.Hi≤b))
def QN(a:(Int×Int)→Option Bool)(d:zm)(b:Int×Int)(c:Bool):Option Bool:=
 if c=true then a (d.Hi,IntKind.wrap .i64 (b.2+1)) else a (b.1,IntKind.wrap .i64 (b.2+1))
def Xe(e:List zm)(d:Int→Option Bool)(b:(Int×Int)→Option Bool)(a:Int×Int):Option Bool:=
 if a.2 < (e.length:Int) then (idx e a.2).bind fun c=>(if c.Lo≤a.1 then (QN b c a) (decide (a.1 < c.Hi)) else (QN b c a) false) else d a.1
def Zd(b:List zm)(a:zm):Option Bool:=
 iter (Xe b<|kC a) FU (a.Lo,0)
def Jf(a:zm)(b:zt):Option Bool:=
 (Zd b.Own a).bind fun c=>(some (!c))
def ye(a:Unit):Option Int:=
 some (-1)
def jl(e:List zm)(f:zt)(b:Unit→Option Int)(c:Int→Option Int)(a:Int):Option Int:=
 if a < (e.length:Int) then (idx e a).bind fun g=>((Jf g f).bind fun d=>(if d=true then some a else c (IntKind.wrap .i64 (a+1)))) else b ()
def jt(a:List zm)(b:zt):Option Int:=
 iter (jl a b ye) FU 0
def qy(a:List zm)(b:zt):Option Bool:=
 (jt a b).bind fun c=>(some<|decide (0≤c))
def QT(a:zr)(b:zt):Option Bool:=
 (zav a.Key).bind fun c=>((Zd b.Own c).bind fun d=>some (!d))
def yk(a:Unit):Option Int:=
 some (-1)
def jq(e:List zr)(f:zt)(b:Unit→Option Int)(c:Int→Option Int)(a:Int):Option Int:=
 if a < (e.length:Int) then (idx e a).bind fun g=>((QT g f).bind fun d=>(if d=true then some a else c (IntKind.wrap .i64 (a+1)))) else b ()
def jH(a:List zr)(b:zt):Option Int:=
 iter (jq a b yk) FU 0
def qB(a:List zr)(b:zt):Option Bool:=
 (jH a b).bind fun c=>(some<|decide (0≤c))
def XI(b:List Int)(a:Int):Option (List Int):=
 if 0≤a∧a≤1000000000 then some [] else none
def Qp(a:List Int):Option (List Int):=
 some a
def Qw(e:(List<|List Int))(c:List Int→Option (List Int))(d:(List Int×Int)→Option (List Int))(a:List Int×Int):Option (List Int):=
 if a.2 < (e.length:Int) then (idx e a.2).bind fun b=>(if (a.1++b).length≤2147483648 then d (a.1++b,IntKind.wrap .i64 (a.2+1)) else none) else c a.1
def Qt(a:(List<|List Int))(b:Int):Option (List Int):=
 (XI ([]:List Int) b).bind fun c=>(iter (Qw a Qp) FU (c,0))
def Z9(e:(List<|List Int))(d:Int→Option (List Int))(b:(Int×Int)→Option (List Int))(a:Int×Int):Option (List Int):=
 if a.2 < (e.length:Int) then (idx e a.2).bind fun c=>(if (IntKind.wrap .i64 (a.1+(c.length:Int))) < 0 then none else b (IntKind.wrap .i64 (a.1+(c.length:Int)),IntKind.wrap .i64 (a.2+1))) else d a.1
def ZC(a:(List<|List Int)):Option (List Int):=
 iter (Z9 a<|Qt a) FU (0,0)
def xY(a:Unit):Option Int:=
 some (-1)
def QI(d:List Int)(e:Int)(b:Unit→Option Int)(c:Int→Option Int)(a:Int):Option Int:=
 if a < (d.length:Int) then (idx d a).bind fun f=>(if e=f then some a else c (IntKind.wrap .i64 (a+1))) else b ()
def JA(a:List Int)(b:Int):Option Int:=
 iter (QI a b xY) FU 0
def qF(a:List Int)(b:Int):Option Bool:=
 (JA a b).bind fun c=>(some<|decide (0≤c))
def QO(a:zu)(b:zt)(c:List Int):Option Bool:=
 (jo a).bind fun d=>((Zd b.Own d).bind fun e=>(if e=true then (qF c a.Tx).bind fun f=>(some f) else some true))
def ym(a:Unit):Option Int:=
 some (-1)
def jr(e:List zu)(f:zt)(g:List Int)(b:Unit→Option Int)(c:Int→Option Int)(a:Int):Option Int:=
 if a < (e.length:Int) then (idx e a).bind fun h=>((QO h f g).bind fun d=>(if d=true then some a else c (IntKind.wrap .i64 (a+1)))) else b ()
def jG(a:List zu)(b:zt)(c:List Int):Option Int:=
 iter (jr a b c ym) FU 0
def qA(a:List zu)(b:zt)(c:List Int):Option Bool:=
 (jG a b c).bind fun d=>(some<|decide (0≤d))
def XO(a:List Int):Option (List Int):=
 if a.length≤1000000000 then some (zdk a) else none
def yL(a:List Int)(b:Unit):Option (List Int):=
 if a.length≤2147483648 then some a else none
def jT(a:List Int):Option (List Int):=
 if a.length=0 then (yL a) () else (yL a) ()
def YU(a:List Int):Option (List Int):=
 if a.length≤1000000000 then some (Go.Lib.compact a) else none
def ZS(a:zr)(b:Int):Option Int:=
 some (IntKind.wrap .i64 (a.Key - b))
def zX(b:List zr)(c:Int)(a:Int):Option (Int×Bool):=
 if a < (b.length:Int) then (idx b a).bind fun d=>((ZS d c).bind fun e=>some (a,decide (e=0))) else some (a,false)
def qg(f:List zr)(g:Int)(c:Int→Option (Int×Bool))(b:(Int×Int)→Option (Int×Bool))(a:Int×Int):Option (Int×Bool):=
 if a.1 < a.2 then (idx f<|IntKind.wrap .i64<|Int.fdiv (IntKind.wrap .u64<|IntKind.wrap .i64 (a.1+a.2))<|2 ^ (min (Int.toNat 1)<|IntKind.bits .u64)).bind fun d=>((ZS d g).bind fun e=>(if e < 0 then b (IntKind.wrap .i64 ((IntKind.wrap .i64<|Int.fdiv (IntKind.wrap .u64<|IntKind.wrap .i64 (a.1+a.2))<|2 ^ (min (Int.toNat 1)<|IntKind.bits .u64))+1),a.2) else b (a.1,IntKind.wrap .i64<|Int.fdiv (IntKind.wrap .u64<|IntKind.wrap .i64 (a.1+a.2))<|2 ^ (min (Int.toNat 1)<|IntKind.bits .u64)))) else c a.1
def qz(a:List zr)(b:Int):Option (Int×Bool):=
 iter (qg a b<|zX a b) FU (0,(a.length:Int))
def YB(b:List zr)(c:Int):Option (Int×Bool):=
 (qz b c).bind fun a=>(some (a.1,a.2))
def YS(a:List zr)(c:Int):Option Int:=
 (YB a c).bind fun b=>(if b.2=true then (idx a b.1).bind fun d=>(some d.Value) else some (-1))
def xx(a:Int):Option Int:=
 some a
def Qq(a:(Int×Int)→Option Int)(b:Int×Int)(c:Bool):Option Int:=
 if c=true then a (IntKind.wrap .i64 (b.1+1),IntKind.wrap .i64 (b.2+1)) else a (b.1,IntKind.wrap .i64 (b.2+1))
def xT(f:List zr)(g:List zr)(d:Int→Option Int)(a:(Int×Int)→Option Int)(b:Int×Int):Option Int:=
 if b.2 < (f.length:Int) then (idx f b.2).bind fun c=>(if ¬c.Value=(-1) then (YS g c.Key).bind fun e=>((Qq a b)<|decide (e < 0)) else (Qq a b) false) else d b.1
def QR(a:List zr)(b:List zr)(c:Bool):Option Int:=
 if c=true then some (-1) else iter (xT a b xx) FU (0,0)
def JO(a:List zr)(b:List zr):Option Int:=
 (Z8 a).bind fun c=>(if c=true then (Qd b).bind fun d=>((QR b a) (!d)) else (QR b a) true)
def zao(a:Int):Option Int:=
 some a
def zah(b:zt)(c:Int→Option Int)(d:(Int×Int)→Option Int)(a:Int×Int):Option Int:=
 if a.2 < (b.Helds.length:Int) then (idx b.Helds a.2).bind fun e=>((JO b.Cells e.Writes).bind fun f=>d (IntKind.wrap .i64 (a.1+f),IntKind.wrap .i64 (a.2+1))) else c a.1
def KJ(a:zt):Option Int:=
 iter (zah a zao) FU ((a.Cells.length:Int),0)
def Zr(b:zt)(i:Bool):Option Bool:=
 if i=true then some false else (ZC<|[b.Wounded,b.Ended]).bind fun c=>((qA b.Locks b c).bind fun e=>(if e=true then some false else (yZ b.Helds).bind fun a=>(if (a++c).length≤2147483648 then (XO (a++c)).bind fun d=>(if d.length=(a++c).length then (jT d).bind fun f=>((YU f).bind fun g=>(if (g.length:Int)=(((a++c).length:Nat):Int) then (KJ b).bind fun h=>(some<|decide (h≤60)) else some false)) else none) else none)))
def qP(a:zt)(d:Bool):Option Bool:=
 if d=true then some false else (qy a.Frozen a).bind fun b=>(if b=true then (Zr a) true else (qB a.Cells a).bind fun c=>(Zr a) c)
def Q0(a:zt):Option Bool:=
 (YQ a.Me).bind fun b=>(if b=true then (Qf a.Own).bind fun c=>(if c=true then (Qf a.Frozen).bind fun d=>(if d=true then (Z8 a.Cells).bind fun e=>(if e=true then (Z6 a.Locks).bind fun f=>(if f=true then (YO a).bind fun g=>(if g=true then (yU a.Wounded).bind fun h=>(if h=true then (yU a.Ended).bind fun i=>(if i=true then (Ze a.Rank 0 1000000).bind fun j=>((qP a) (!j)) else (qP a) true) else (qP a) true) else (qP a) true) else (qP a) true) else (qP a) true) else (qP a) true) else (qP a) true) else (qP a) true)
def yi(a:List zm)(b:Unit):Option (List zm):=
 if a.length≤2147483648 then some a else none
def yy(a:List zm):Option (List zm):=
 if a.length=0 then (yi a) () else (yi a) ()
def yB(a:List zr)(b:Unit):Option (List zr):=
 if a.length≤2147483648 then some a else none
def yK(a:List zr):Option (List zr):=
 if a.length=0 then (yB a) () else (yB a) ()
def yx(a:List zu)(b:Unit):Option (List zu):=
 if a.length≤2147483648 then some a else none
def yd(a:List zu):Option (List zu):=
 if a.length=0 then (yx a) () else (yx a) ()
def yg(a:List zr)(b:Unit):Option (List zr):=
 if a.length≤2147483648 then some a else none
def y5(a:List zr):Option (List zr):=
 if a.length=0 then (yg a) () else (yg a) ()
def Jv(d:zt)(e:List zm)(f:List zm)(g:List zr)(h:List zu)(a:List Int)(b:List Int)(c:List zP):Option zt:=
 some (zt.mk d.Me e f g h c a b d.Rank)
def JM(f:zt)(c:List zP→Option zt)(d:(Int×List zP)→Option zt)(a:Int×List zP):Option zt:=
 if a.1 < (f.Helds.length:Int) then (idx f.Helds a.1).bind fun b=>((y5 b.Writes).bind fun e=>(if (a.2++[zP.mk b.Tx e]).length≤2147483648 then d (IntKind.wrap .i64 (a.1+1),a.2++[zP.mk b.Tx e]) else none)) else c a.2
def ZT(a:zt):Option zt:=
 (yy a.Own).bind fun d=>((yy a.Frozen).bind fun e=>(yK a.Cells).bind fun f=>(yd a.Locks).bind fun g=>(jT a.Wounded).bind fun b=>(jT a.Ended).bind fun c=>iter (JM a<|Jv a d e f g b c) FU (0,([]:List zP)))
def ky(a:zt)(b:Int):Option Bool:=
 (yZ a.Helds).bind fun c=>((qF c b).bind fun d=>some d)
def xI(a:zm)(b:zm):Option Bool:=
 (Jn b a).bind fun c=>(some c)
def yc(a:Unit):Option Int:=
 some (-1)
def jn(e:List zm)(f:zm)(b:Unit→Option Int)(c:Int→Option Int)(a:Int):Option Int:=
 if a < (e.length:Int) then (idx e a).bind fun g=>((xI g f).bind fun d=>(if d=true then some a else c (IntKind.wrap .i64 (a+1)))) else b ()
def ju(a:List zm)(b:zm):Option Int:=
 iter (jn a b yc) FU 0
def je(a:List zm)(b:zm):Option Bool:=
 (ju a b).bind fun c=>(some<|decide (0≤c))
def YP(a:List zm)(b:zm):Option Bool:=
 (je a b).bind fun c=>(some c)
def KL(a:zt)(b:zm):Option Bool:=
 (Zd a.Own b).bind fun c=>(if c=true then (YP a.Frozen b).bind fun d=>(some (!d)) else some false)
def JU(a:Int):Option Bool:=
 some (decide (¬a=a))
def YI(a:Int)(b:Int):Option Bool:=
 (JU a).bind fun c=>(if c=true then (JU b).bind fun d=>(if d=true then some (decide (a < b)) else some true) else some (decide (a < b)))
def Z4(a:Int):Option Bool:=
 some (decide (¬a=a))
def qS(b:List Int)(e:Int)(a:Int):Option (Int×Bool):=
 if a < (b.length:Int) then (idx b a).bind fun f=>(if f=e then some (a,true) else (idx b a).bind fun g=>(Z4 g).bind fun c=>(if c=true then (Z4 e).bind fun d=>(some (a,d)) else some (a,false))) else some (a,false)
def jP(f:List Int)(g:Int)(c:Int→Option (Int×Bool))(b:(Int×Int)→Option (Int×Bool))(a:Int×Int):Option (Int×Bool):=
 if a.1 < a.2 then (idx f<|IntKind.wrap .i64<|Int.fdiv (IntKind.wrap .u64<|IntKind.wrap .i64 (a.1+a.2))<|2 ^ (min (Int.toNat 1)<|IntKind.bits .u64)).bind fun d=>((YI d g).bind fun e=>(if e=true then b (IntKind.wrap .i64 ((IntKind.wrap .i64<|Int.fdiv (IntKind.wrap .u64<|IntKind.wrap .i64 (a.1+a.2))<|2 ^ (min (Int.toNat 1)<|IntKind.bits .u64))+1),a.2) else b (a.1,IntKind.wrap .i64<|Int.fdiv (IntKind.wrap .u64<|IntKind.wrap .i64 (a.1+a.2))<|2 ^ (min (Int.toNat 1)<|IntKind.bits .u64)))) else c a.1
def yb(a:List Int)(b:Int):Option (Int×Bool):=
 iter (jP a b<|qS a b) FU (0,(a.length:Int))
def xX(a:List Int)(b:Int)(c:List Int):Option (List Int):=
 if 0≤b∧b≤(a.length:Int)∧c.length=1∧a.length≤1000000000 then some (List.take (Int.toNat b) a++(c++List.drop (Int.toNat b) a)) else none
def Zv(a:List Int)(b:Int):Option (List Int):=
 (yb a b).bind fun c=>(if c.2=true then some a else (jT a).bind fun d=>(xX d c.1<|[b]).bind fun e=>some e)
def xl(a:List Int×List Int):Option (List Int×List Int):=
 some (a.1,a.2)
def Qz(c:List Int×List Int×Int)(f:zu)(a:(List Int×List Int×Int)→Option (List Int×List Int))(b:List Int)(d:Bool):Option (List Int×List Int):=
 if d=true then (Zv c.2.1 f.Tx).bind fun e=>(a (b,e,IntKind.wrap .i64 (c.2.2+1))) else a (b,c.2.1,IntKind.wrap .i64 (c.2.2+1))
def xS(h:List zu)(i:zu)(j:List Int)(e:(List Int×List Int)→Option (List Int×List Int))(b:(List Int×List Int×Int)→Option (List Int×List Int))(a:List Int×List Int×Int):Option (List Int×List Int):=
 if a.2.2 < (h.length:Int) then (idx h a.2.2).bind fun c=>((xe i c).bind fun f=>(if f=true then (Zv a.1 c.Tx).bind fun d=>(if c.Tx < i.Tx then (Qz a c b d) true else (qF j c.Tx).bind fun g=>(Qz a c b d) g) else b (a.1,a.2.1,IntKind.wrap .i64 (a.2.2+1)))) else e (a.1,a.2.1)
def Qi(a:List zu)(b:List Int)(c:zu):Option (List Int×List Int):=
 iter (xS a c b xl) FU (([]:List Int),([]:List Int),0)
def yE(a:zu)(b:List Int):Option Bool:=
 (qF b a.Tx).bind fun c=>(some c)
def yo(a:Unit):Option Int:=
 some (-1)
def jx(e:List zu)(f:List Int)(b:Unit→Option Int)(c:Int→Option Int)(a:Int):Option Int:=
 if a < (e.length:Int) then (idx e a).bind fun g=>((yE g f).bind fun d=>(if d=true then some a else c (IntKind.wrap .i64 (a+1)))) else b ()
def qU(a:List zu)(b:List Int):Option Int:=
 iter (jx a b yo) FU 0
def qK(a:List zu×Int):Option (List zu):=
 if (0:Int)≤a.2∧a.2≤((a.1.length:Nat):Int)∧((a.1.length:Nat):Int)≤((a.1.length:Nat):Int) then if (Int.toNat a.2)+(Int.toNat ((a.1.length:Nat):Int) - Int.toNat a.2)≤a.1.length then if (0:Int)≤0∧0≤a.2∧a.2≤((a.1.length:Nat):Int) then some (List.take (Int.toNat a.2) (List.take (Int.toNat a.2) a.1++List.replicate (Int.toNat ((a.1.length:Nat):Int) - Int.toNat a.2) (zu.mk 0 0 0 0)++List.drop ((Int.toNat a.2)+(Int.toNat ((a.1.length:Nat):Int) - Int.toNat a.2)) a.1)) else none else none else none
def qC(f:List Int)(d:(List zu×Int)→Option (List zu))(b:(List zu×Int×Int)→Option (List zu))(a:List zu×Int×Int):Option (List zu):=
 if a.2.2 < ((a.1.length:Nat):Int) then (idx a.1 a.2.2).bind fun c=>((yE c f).bind fun e=>(if e=true then b (a.1,a.2.1,IntKind.wrap .i64 (a.2.2+1)) else (idx a.1 a.2.1).bind fun g=>b (a.1.set (Int.toNat a.2.1) c,IntKind.wrap .i64 (a.2.1+1),IntKind.wrap .i64 (a.2.2+1)))) else d (a.1,a.2.1)
def qN(a:List zu)(c:List Int):Option (List zu):=
 (qU a c).bind fun b=>(if b=(-1) then some a else iter (qC c qK) FU (a,b,IntKind.wrap .i64 (b+1)))
def yq(d:List zu)(e:Int)(a:zm)(f:Int)(j:List Int)(k:Bool):Option (List zu×List Int×Int):=
 if k=true then some (([]:List zu),([]:List Int),1) else (yd d).bind fun g=>((yQ d e a f).bind fun h=>(if h=true then some (g,([]:List Int),0) else (Qi d j<|zu.mk e a.Lo a.Hi f).bind fun b=>(if 0 < ((b.2.length:Nat):Int) then some (g,([]:List Int),2) else (yd d).bind fun i=>(qN i b.1).bind fun c=>(if ((c.length:Nat):Int)=40 then some (g,([]:List Int),3) else if (c++([zu.mk e a.Lo a.Hi f])).length≤2147483648 then some (c++([zu.mk e a.Lo a.Hi f]),b.1,0) else none))))
def Je(a:List zu)(b:List Int)(c:Int)(d:zm)(e:Int):Option (List zu×List Int×Int):=
 (Z6 a).bind fun f=>(if f=true then if 60 < (b.length:Int) then (yq a c d e b) true else (Jm c).bind fun g=>(if g=true then (yp d).bind fun h=>(if h=true then (QA e).bind fun i=>((yq a c d e b) (!i)) else (yq a c d e b) true) else (yq a c d e b) true) else (yq a c d e b) true)
def Jr(a:zt)(c:List zu×List Int×Int)(b:List Int):Option (Int×zt):=
 some (0,zt.mk a.Me a.Own a.Frozen a.Cells c.1 a.Helds b a.Ended a.Rank)
def JD(f:List zu×List Int×Int)(b:List Int→Option (Int×zt))(c:(Int×List Int)→Option (Int×zt))(a:Int×List Int):Option (Int×zt):=
 if a.1 < ((f.2.1.length:Nat):Int) then (idx f.2.1 a.1).bind fun d=>((Zv a.2 d).bind fun e=>c (IntKind.wrap .i64 (a.1+1),e)) else b a.2
def QZ(a:zt)(c:Int)(d:zm)(e:Int):Option (Int×zt):=
 (yZ a.Helds).bind fun f=>((Je a.Locks f c d e).bind fun b=>(if b.2.2=2 then some (5,a) else if b.2.2=3 then some (6,a) else iter (JD b<|Jr a b) FU (0,a.Wounded)))
def QQ(a:zm)(b:Int):Option Bool:=
 (Ze b a.Lo<|IntKind.wrap .i64 (a.Hi - 1)).bind fun c=>(some c)
def Zw(a:zr)(b:zm)(c:Bool):Option Bool:=
 (QQ b a.Key).bind fun d=>(some (d != c))
def yw(a:Unit):Option Int:=
 some (-1)
def jF(e:List zr)(f:zm)(g:Bool)(b:Unit→Option Int)(c:Int→Option Int)(a:Int):Option Int:=
 if a < (e.length:Int) then (idx e a).bind fun h=>((Zw h f g).bind fun d=>(if d=true then some a else c (IntKind.wrap .i64 (a+1)))) else b ()
def qY(a:List zr)(b:zm)(c:Bool):Option Int:=
 iter (jF a b c yw) FU 0
def qO(a:List zr×Int):Option (List zr):=
 if (0:Int)≤a.2∧a.2≤((a.1.length:Nat):Int)∧((a.1.length:Nat):Int)≤((a.1.length:Nat):Int) then if (Int.toNat a.2)+(Int.toNat ((a.1.length:Nat):Int) - Int.toNat a.2)≤a.1.length then if (0:Int)≤0∧0≤a.2∧a.2≤((a.1.length:Nat):Int) then some (List.take (Int.toNat a.2) (List.take (Int.toNat a.2) a.1++List.replicate (Int.toNat ((a.1.length:Nat):Int) - Int.toNat a.2) (zr.mk 0 0)++List.drop ((Int.toNat a.2)+(Int.toNat ((a.1.length:Nat):Int) - Int.toNat a.2)) a.1)) else none else none else none
def qI(f:zm)(g:Bool)(d:(List zr×Int)→Option (List zr))(b:(List zr×Int×Int)→Option (List zr))(a:List zr×Int×Int):Option (List zr):=
 if a.2.2 < ((a.1.length:Nat):Int) then (idx a.1 a.2.2).bind fun c=>((Zw c f g).bind fun e=>(if e=true then b (a.1,a.2.1,IntKind.wrap .i64 (a.2.2+1)) else (idx a.1 a.2.1).bind fun h=>b (a.1.set (Int.toNat a.2.1) c,IntKind.wrap .i64 (a.2.1+1),IntKind.wrap .i64 (a.2.2+1)))) else d (a.1,a.2.1)
def qQ(a:List zr)(c:zm)(d:Bool):Option (List zr):=
 (qY a c d).bind fun b=>(if b=(-1) then some a else iter (qI c d qO) FU (a,b,IntKind.wrap .i64 (b+1)))
def Yv(a:List zr)(b:zm)(c:Bool)(d:Bool):Option (List zr):=
 if d=true then some ([]:List zr) else (yK a).bind fun e=>((qQ e b c).bind fun f=>some f)
def kh(a:List zr)(b:zm)(e:Bool):Option (List zr):=
 (Z8 a).bind fun c=>(if c=true then (yp b).bind fun d=>((Yv a b e) (!d)) else (Yv a b e) true)
def Jb(a:List zr)(b:zm):Option (List zr):=
 (kh a b true).bind fun c=>(some c)
def Zl(b:zt)(c:zt)(i:Int)(d:zm)(j:Bool):Option (zt×List zr×Int):=
 if j=true then some (b,([]:List zr),2) else (qF c.Wounded i).bind fun e=>(if e=true then some (b,([]:List zr),3) else (KL c d).bind fun f=>(if f=true then (QZ b i d 1).bind fun a=>(if ¬a.1=0 then (ZT c).bind fun g=>(some (g,([]:List zr),a.1)) else (Jb b.Cells d).bind fun h=>some (zt.mk a.2.Me b.Own b.Frozen b.Cells a.2.Locks a.2.Helds a.2.Wounded b.Ended a.2.Rank,h,0)) else some (b,([]:List zr),4)))
def yJ(a:zt)(b:Int)(e:zm)(g:Bool):Option (zt×List zr×Int):=
 if g=true then some (zt.mk 0 ([]:List zm) ([]:List zm) ([]:List zr) ([]:List zu) ([]:List zP) ([]:List Int) ([]:List Int) 0,([]:List zr),1) else (ZT a).bind fun f=>((qF a.Ended b).bind fun c=>(if c=true then (Zl f a b e) true else (ky a b).bind fun d=>(Zl f a b e) d))
def ZR(a:zt)(b:Int)(c:zm):Option (zt×List zr×Int):=
 (Q0 a).bind fun d=>(if d=true then (Jm b).bind fun e=>(if e=true then (yp c).bind fun f=>((yJ a b c) (!f)) else (yJ a b c) true) else (yJ a b c) true)
def YX(a:zm)(b:zm):Option Bool:=
 if ¬a.Lo=b.Lo then some false else if ¬a.Hi=b.Hi then some false else some true
def Km(a:Unit):Option Bool:=
 some true
def Y8(f:List zm)(g:List zm)(b:Unit→Option Bool)(c:Int→Option Bool)(a:Int):Option Bool:=
 if a < (f.length:Int) then (idx f a).bind fun h=>((idx g a).bind fun d=>(YX h d).bind fun e=>(if e=true then c (IntKind.wrap .i64 (a+1)) else some false)) else b ()
def Qk(a:List zm)(b:List zm):Option Bool:=
 if ¬(a.length:Int)=(b.length:Int) then some false else iter (Y8 a b Km) FU 0
def kd(a:zr)(b:zr):Option Bool:=
 if ¬a.Key=b.Key then some false else if ¬a.Value=b.Value then some false else some true
def K6(a:Unit):Option Bool:=
 some true
def kJ(f:List zr)(g:List zr)(b:Unit→Option Bool)(c:Int→Option Bool)(a:Int):Option Bool:=
 if a < (f.length:Int) then (idx f a).bind fun h=>((idx g a).bind fun d=>(kd h d).bind fun e=>(if e=true then c (IntKind.wrap .i64 (a+1)) else some false)) else b ()
def y4(a:List zr)(b:List zr):Option Bool:=
 if ¬(a.length:Int)=(b.length:Int) then some false else iter (kJ a b K6) FU 0
def kl(a:zu)(b:zu):Option Bool:=
 if ¬a.Tx=b.Tx then some false else if ¬a.Lo=b.Lo then some false else if ¬a.Hi=b.Hi then some false else if ¬a.Mode=b.Mode then some false else some true
def K5(a:Unit):Option Bool:=
 some true
def kF(f:List zu)(g:List zu)(b:Unit→Option Bool)(c:Int→Option Bool)(a:Int):Option Bool:=
 if a < (f.length:Int) then (idx f a).bind fun h=>((idx g a).bind fun d=>(kl h d).bind fun e=>(if e=true then c (IntKind.wrap .i64 (a+1)) else some false)) else b ()
def Yw(a:List zu)(b:List zu):Option Bool:=
 if ¬(a.length:Int)=(b.length:Int) then some false else iter (kF a b K5) FU 0
def Y1(a:zr)(b:zr):Option Bool:=
 if ¬a.Key=b.Key then some false else if ¬a.Value=b.Value then some false else some true
def Kf(a:Unit):Option Bool:=
 some true
def xD(f:List zr)(g:List zr)(b:Unit→Option Bool)(c:Int→Option Bool)(a:Int):Option Bool:=
 if a < (f.length:Int) then (idx f a).bind fun h=>((idx g a).bind fun d=>(Y1 h d).bind fun e=>(if e=true then c (IntKind.wrap .i64 (a+1)) else some false)) else b ()
def JS(a:List zr)(b:List zr):Option Bool:=
 if ¬(a.length:Int)=(b.length:Int) then some false else iter (xD a b Kf) FU 0
def ke(a:zP)(b:zP):Option Bool:=
 if ¬a.Tx=b.Tx then some false else (JS a.Writes b.Writes).bind fun c=>(if c=true then some true else some false)
def KT(a:Unit):Option Bool:=
 some true
def kE(f:List zP)(g:List zP)(b:Unit→Option Bool)(c:Int→Option Bool)(a:Int):Option Bool:=
 if a < (f.length:Int) then (idx f a).bind fun h=>((idx g a).bind fun d=>(ke h d).bind fun e=>(if e=true then c (IntKind.wrap .i64 (a+1)) else some false)) else b ()
def YD(a:List zP)(b:List zP):Option Bool:=
 if ¬(a.length:Int)=(b.length:Int) then some false else iter (kE a b KT) FU 0
def zaK(a:Unit):Option Bool:=
 some true
def XD(e:List Int)(f:List Int)(b:Unit→Option Bool)(c:Int→Option Bool)(a:Int):Option Bool:=
 if a < (e.length:Int) then (idx e a).bind fun g=>((idx f a).bind fun d=>(if ¬g=d then some false else c (IntKind.wrap .i64 (a+1)))) else b ()
def J3(a:List Int)(b:List Int):Option Bool:=
 if ¬(a.length:Int)=(b.length:Int) then some false else iter (XD a b zaK) FU 0
def Za(a:zt)(b:zt):Option Bool:=
 if ¬a.Me=b.Me then some false else (Qk a.Own b.Own).bind fun h=>(if h=true then (Qk a.Frozen b.Frozen).bind fun i=>(if i=true then (y4 a.Cells b.Cells).bind fun c=>(if c=true then (Yw a.Locks b.Locks).bind fun d=>(if d=true then (YD a.Helds b.Helds).bind fun e=>(if e=true then (J3 a.Wounded b.Wounded).bind fun f=>(if f=true then (J3 a.Ended b.Ended).bind fun g=>(if g=true then if ¬a.Rank=b.Rank then some false else some true else some false) else some false) else some false) else some false) else some false) else some false) else some false)
def Jz(b:List zm)(a:List zm×Int):Option (Int×List zm):=
 if a.1.length=b.length then some (a.2,a.1) else none
def Jy(b:(List zm×Int)→Option (Int×List zm))(c:(List zm×Int×Int)→Option (Int×List zm))(a:List zm×Int×Int):Option (Int×List zm):=
 if a.2.2 < ((a.1.length:Nat):Int) then (idx a.1 a.2.2).bind fun e=>((idx (a.1.set (Int.toNat a.2.2)<|zm.mk a.2.1 e.Hi) a.2.2).bind fun d=>c ((a.1.set (Int.toNat a.2.2)<|zm.mk a.2.1 e.Hi).set (Int.toNat a.2.2)<|zm.mk d.Lo<|IntKind.wrap .i64 (a.2.1+1),IntKind.wrap .i64 ((IntKind.wrap .i64 (a.2.1+1))+1),IntKind.wrap .i64 (a.2.2+1))) else b (a.1,a.2.1)
def jv(a:List zm)(b:Int):Option (Int×List zm):=
 iter (Jy<|Jz a) FU (a,b,0)
def Yq(b:List zr)(a:List zr×Int):Option (Int×List zr):=
 if a.1.length=b.length then some (a.2,a.1) else none
def Ye(b:(List zr×Int)→Option (Int×List zr))(c:(List zr×Int×Int)→Option (Int×List zr))(a:List zr×Int×Int):Option (Int×List zr):=
 if a.2.2 < ((a.1.length:Nat):Int) then (idx a.1 a.2.2).bind fun e=>((idx (a.1.set (Int.toNat a.2.2)<|zr.mk a.2.1 e.Value) a.2.2).bind fun d=>c ((a.1.set (Int.toNat a.2.2)<|zr.mk a.2.1 e.Value).set (Int.toNat a.2.2)<|zr.mk d.Key<|IntKind.wrap .i64 (a.2.1+1),IntKind.wrap .i64 ((IntKind.wrap .i64 (a.2.1+1))+1),IntKind.wrap .i64 (a.2.2+1))) else b (a.1,a.2.1)
def yD(a:List zr)(b:Int):Option (Int×List zr):=
 iter (Ye<|Yq a) FU (a,b,0)
def Yc(b:List zu)(a:List zu×Int):Option (Int×List zu):=
 if a.1.length=b.length then some (a.2,a.1) else none
def Yo(f:(List zu×Int)→Option (Int×List zu))(g:(List zu×Int×Int)→Option (Int×List zu))(a:List zu×Int×Int):Option (Int×List zu):=
 if a.2.2 < ((a.1.length:Nat):Int) then (idx a.1 a.2.2).bind fun d=>((idx (a.1.set (Int.toNat a.2.2)<|zu.mk a.2.1 d.Lo d.Hi d.Mode) a.2.2).bind fun b=>(idx ((a.1.set (Int.toNat a.2.2)<|zu.mk a.2.1 d.Lo d.Hi d.Mode).set (Int.toNat a.2.2)<|zu.mk b.Tx (IntKind.wrap .i64 (a.2.1+1)) b.Hi b.Mode) a.2.2).bind fun c=>(idx (((a.1.set (Int.toNat a.2.2)<|zu.mk a.2.1 d.Lo d.Hi d.Mode).set (Int.toNat a.2.2)<|zu.mk b.Tx (IntKind.wrap .i64 (a.2.1+1)) b.Hi b.Mode).set (Int.toNat a.2.2)<|zu.mk c.Tx c.Lo (IntKind.wrap .i64 ((IntKind.wrap .i64 (a.2.1+1))+1)) c.Mode) a.2.2).bind fun e=>g ((((a.1.set (Int.toNat a.2.2)<|zu.mk a.2.1 d.Lo d.Hi d.Mode).set (Int.toNat a.2.2)<|zu.mk b.Tx (IntKind.wrap .i64 (a.2.1+1)) b.Hi b.Mode).set (Int.toNat a.2.2)<|zu.mk c.Tx c.Lo (IntKind.wrap .i64 ((IntKind.wrap .i64 (a.2.1+1))+1)) c.Mode).set (Int.toNat a.2.2)<|zu.mk e.Tx e.Lo e.Hi<|IntKind.wrap .i64 ((IntKind.wrap .i64 ((IntKind.wrap .i64 (a.2.1+1))+1))+1),IntKind.wrap .i64 ((IntKind.wrap .i64 ((IntKind.wrap .i64 ((IntKind.wrap .i64 (a.2.1+1))+1))+1))+1),IntKind.wrap .i64 (a.2.2+1))) else f (a.1,a.2.1)
def yS(a:List zu)(b:Int):Option (Int×List zu):=
 iter (Yo<|Yc a) FU (a,b,0)
def JK(b:List zr)(a:List zr×Int):Option (Int×List zr):=
 if a.1.length=b.length then some (a.2,a.1) else none
def Jp(b:(List zr×Int)→Option (Int×List zr))(c:(List zr×Int×Int)→Option (Int×List zr))(a:List zr×Int×Int):Option (Int×List zr):=
 if a.2.2 < ((a.1.length:Nat):Int) then (idx a.1 a.2.2).bind fun e=>((idx (a.1.set (Int.toNat a.2.2)<|zr.mk a.2.1 e.Value) a.2.2).bind fun d=>c ((a.1.set (Int.toNat a.2.2)<|zr.mk a.2.1 e.Value).set (Int.toNat a.2.2)<|zr.mk d.Key<|IntKind.wrap .i64 (a.2.1+1),IntKind.wrap .i64 ((IntKind.wrap .i64 (a.2.1+1))+1),IntKind.wrap .i64 (a.2.2+1))) else b (a.1,a.2.1)
def Qn(a:List zr)(b:Int):Option (Int×List zr):=
 iter (Jp<|JK a) FU (a,b,0)
def Ym(b:List zP)(a:List zP×Int):Option (Int×List zP):=
 if a.1.length=b.length then some (a.2,a.1) else none
def Yp(d:(List zP×Int)→Option (Int×List zP))(e:(List zP×Int×Int)→Option (Int×List zP))(a:List zP×Int×Int):Option (Int×List zP):=
 if a.2.2 < ((a.1.length:Nat):Int) then (idx a.1 a.2.2).bind fun f=>((idx (a.1.set (Int.toNat a.2.2)<|zP.mk a.2.1 f.Writes) a.2.2).bind fun b=>(Qn b.Writes<|IntKind.wrap .i64 (a.2.1+1)).bind fun c=>e ((a.1.set (Int.toNat a.2.2)<|zP.mk a.2.1 f.Writes).set (Int.toNat a.2.2)<|zP.mk b.Tx c.2,c.1,IntKind.wrap .i64 (a.2.2+1))) else d (a.1,a.2.1)
def yP(a:List zP)(b:Int):Option (Int×List zP):=
 iter (Yp<|Ym a) FU (a,b,0)
def xN(b:List Int)(a:List Int×Int):Option (Int×List Int):=
 if a.1.length=b.length then some (a.2,a.1) else none
def xj(b:(List Int×Int)→Option (Int×List Int))(c:(List Int×Int×Int)→Option (Int×List Int))(a:List Int×Int×Int):Option (Int×List Int):=
 if a.2.2 < ((a.1.length:Nat):Int) then (idx a.1 a.2.2).bind fun d=>(c (a.1.set (Int.toNat a.2.2) a.2.1,IntKind.wrap .i64 (a.2.1+1),IntKind.wrap .i64 (a.2.2+1))) else b (a.1,a.2.1)
def j0(a:List Int)(b:Int):Option (Int×List Int):=
 iter (xj<|xN a) FU (a,b,0)
def yz(a:zt)(i:Int):Option (Int×zt):=
 (jv a.Own i).bind fun f=>(if f.2.length=a.Own.length then (jv a.Frozen f.1).bind fun g=>(if g.2.length=a.Frozen.length then (yD a.Cells g.1).bind fun h=>(if h.2.length=a.Cells.length then (yS a.Locks h.1).bind fun b=>(if b.2.length=a.Locks.length then (yP a.Helds b.1).bind fun c=>(if c.2.length=a.Helds.length then (j0 a.Wounded c.1).bind fun d=>(if d.2.length=a.Wounded.length then (j0 a.Ended d.1).bind fun e=>(if e.2.length=a.Ended.length then if f.2.length=a.Own.length then if g.2.length=a.Frozen.length then if h.2.length=a.Cells.length then if b.2.length=a.Locks.length then if c.2.length=a.Helds.length then if d.2.length=a.Wounded.length then if e.2.length=a.Ended.length then some (e.1,zt.mk a.Me f.2 g.2 h.2 b.2 c.2 d.2 e.2 a.Rank) else none else none else none else none else none else none else none else none) else none) else none) else none) else none) else none) else none)
def Jw(a:Int):Option Int:=
 some a
def JB(b:List zm)(c:Int→Option Int)(d:(Int×Int)→Option Int)(a:Int×Int):Option Int:=
 if a.2 < (b.length:Int) then (idx b a.2).bind fun f=>(if ¬f.Lo=a.1 then some (-1) else (idx b a.2).bind fun e=>(if ¬e.Hi=(IntKind.wrap .i64 (a.1+1)) then some (-1) else d (IntKind.wrap .i64 ((IntKind.wrap .i64 (a.1+1))+1),IntKind.wrap .i64 (a.2+1)))) else c a.1
def js(a:List zm)(b:Int):Option Int:=
 iter (JB a Jw) FU (b,0)
def Yn(a:Int):Option Int:=
 some a
def Yg(b:List zr)(c:Int→Option Int)(d:(Int×Int)→Option Int)(a:Int×Int):Option Int:=
 if a.2 < (b.length:Int) then (idx b a.2).bind fun f=>(if ¬f.Key=a.1 then some (-1) else (idx b a.2).bind fun e=>(if ¬e.Value=(IntKind.wrap .i64 (a.1+1)) then some (-1) else d (IntKind.wrap .i64 ((IntKind.wrap .i64 (a.1+1))+1),IntKind.wrap .i64 (a.2+1)))) else c a.1
def j7(a:List zr)(b:Int):Option Int:=
 iter (Yg a Yn) FU (b,0)
def Yb(a:Int):Option Int:=
 some a
def Yh(b:List zu)(c:Int→Option Int)(d:(Int×Int)→Option Int)(a:Int×Int):Option Int:=
 if a.2 < (b.length:Int) then (idx b a.2).bind fun h=>(if ¬h.Tx=a.1 then some (-1) else (idx b a.2).bind fun e=>(if ¬e.Lo=(IntKind.wrap .i64 (a.1+1)) then some (-1) else (idx b a.2).bind fun f=>(if ¬f.Hi=(IntKind.wrap .i64 ((IntKind.wrap .i64 (a.1+1))+1)) then some (-1) else (idx b a.2).bind fun g=>(if ¬g.Mode=(IntKind.wrap .i64 ((IntKind.wrap .i64 ((IntKind.wrap .i64 (a.1+1))+1))+1)) then some (-1) else d (IntKind.wrap .i64 ((IntKind.wrap .i64 ((IntKind.wrap .i64 ((IntKind.wrap .i64 (a.1+1))+1))+1))+1),IntKind.wrap .i64 (a.2+1)))))) else c a.1
def yX(a:List zu)(b:Int):Option Int:=
 iter (Yh a Yb) FU (b,0)
def Jo(a:Int):Option Int:=
 some a
def Jx(b:List zr)(c:Int→Option Int)(d:(Int×Int)→Option Int)(a:Int×Int):Option Int:=
 if a.2 < (b.length:Int) then (idx b a.2).bind fun f=>(if ¬f.Key=a.1 then some (-1) else (idx b a.2).bind fun e=>(if ¬e.Value=(IntKind.wrap .i64 (a.1+1)) then some (-1) else d (IntKind.wrap .i64 ((IntKind.wrap .i64 (a.1+1))+1),IntKind.wrap .i64 (a.2+1)))) else c a.1
def Qy(a:List zr)(b:Int):Option Int:=
 iter (Jx a Jo) FU (b,0)
def Yi(a:Int):Option Int:=
 some a
def Yk(c:List zP)(d:Int→Option Int)(e:(Int×Int)→Option Int)(a:Int×Int):Option Int:=
 if a.2 < (c.length:Int) then (idx c a.2).bind fun g=>(if ¬g.Tx=a.1 then some (-1) else (idx c a.2).bind fun f=>(Qy f.Writes<|IntKind.wrap .i64 (a.1+1)).bind fun b=>(if b < 0 then some (-1) else e (b,IntKind.wrap .i64 (a.2+1)))) else d a.1
def yW(a:List zP)(b:Int):Option Int:=
 iter (Yk a Yi) FU (b,0)
def xr(a:Int):Option Int:=
 some a
def xM(d:List Int)(b:Int→Option Int)(c:(Int×Int)→Option Int)(a:Int×Int):Option Int:=
 if a.2 < (d.length:Int) then (idx d a.2).bind fun e=>(if ¬e=a.1 then some (-1) else c (IntKind.wrap .i64 (a.1+1),IntKind.wrap .i64 (a.2+1))) else b a.1
def jX(a:List Int)(b:Int):Option Int:=
 iter (xM a xr) FU (b,0)
def yC(a:zt)(i:Int):Option Int:=
 (js a.Own i).bind fun f=>(if f < 0 then some (-1) else (js a.Frozen f).bind fun g=>(if g < 0 then some (-1) else (j7 a.Cells g).bind fun h=>(if h < 0 then some (-1) else (yX a.Locks h).bind fun b=>(if b < 0 then some (-1) else (yW a.Helds b).bind fun c=>(if c < 0 then some (-1) else (jX a.Wounded c).bind fun d=>(if d < 0 then some (-1) else (jX a.Ended d).bind fun e=>(if e < 0 then some (-1) else some e)))))))
def jD(b:zt×List zr×Int)(a:Int×zt)(c:Int×List zr)(f:Bool):Option Bool:=
 if f=true then some false else (yC (zt.mk b.1.Me a.2.Own a.2.Frozen a.2.Cells a.2.Locks a.2.Helds a.2.Wounded a.2.Ended b.1.Rank) 1).bind fun d=>(if d < 0 then some false else (j7 c.2 d).bind fun e=>(if e < 0 then some false else if ¬e=c.1 then some false else some true))
def qZ(b:zt×List zr×Int)(m:zt)(n:zm)(o:Int)(d:zt×List zr×Int)(h:Bool):Option Bool:=
 if h=true then some false else (yz b.1 1).bind fun a=>(if a.2.Own.length=b.1.Own.length then if a.2.Frozen.length=b.1.Frozen.length then if a.2.Cells.length=b.1.Cells.length then if a.2.Locks.length=b.1.Locks.length then if a.2.Helds.length=b.1.Helds.length then if a.2.Wounded.length=b.1.Wounded.length then if a.2.Ended.length=b.1.Ended.length then (yD b.2.1 a.1).bind fun c=>(if c.2.length=b.2.1.length then (yC (zt.mk b.1.Me a.2.Own a.2.Frozen a.2.Cells a.2.Locks a.2.Helds a.2.Wounded a.2.Ended b.1.Rank) 1).bind fun f=>(if f < 0 then some false else (j7 c.2 f).bind fun g=>(if g < 0 then some false else if ¬g=c.1 then some false else (Zf m).bind fun i=>(y0 n).bind fun j=>(ZR i o j).bind fun e=>(Za e.1 d.1).bind fun k=>(if k=true then (y4 e.2.1 d.2.1).bind fun l=>(if l=true then (jD b a c) (decide (¬e.2.2=d.2.2)) else (jD b a c) true) else (jD b a c) true))) else none) else none else none else none else none else none else none else none)
def jE(e:zt)(a:zt)(c:zt×List zr×Int)(f:zm)(g:Int)(d:zt×List zr×Int)(h:Bool):Option Bool:=
 if h=true then some false else (Zf e).bind fun i=>((Za a i).bind fun j=>(if j=true then (yz a 1).bind fun b=>(if b.2.Own.length=a.Own.length then if b.2.Frozen.length=a.Frozen.length then if b.2.Cells.length=a.Cells.length then if b.2.Locks.length=a.Locks.length then if b.2.Helds.length=a.Helds.length then if b.2.Wounded.length=a.Wounded.length then if b.2.Ended.length=a.Ended.length then if b.1 < 0 then (qZ c e f g d) true else (Za c.1 d.1).bind fun k=>(if k=true then (y4 c.2.1 d.2.1).bind fun l=>(if l=true then (qZ c e f g d) (decide (¬c.2.2=d.2.2)) else (qZ c e f g d) true) else (qZ c e f g d) true) else none else none else none else none else none else none else none) else some false))
def Zm(d:zt)(e:Int)(f:zm):Option Bool:=
 (YT d 1048576).bind fun j=>(if j < 0 then some true else (Zf d).bind fun k=>(y0 f).bind fun l=>(Jj k e l).bind fun a=>(Zf d).bind fun c=>(y0 f).bind fun g=>(ZR c e g).bind fun b=>(Za b.1 a.1).bind fun h=>(if h=true then (y4 b.2.1 a.2.1).bind fun i=>(if i=true then (jE d c b f e a) (decide (¬b.2.2=a.2.2)) else (jE d c b f e a) true) else (jE d c b f e a) true))
abbrev zW(x:zu):List C:=[dI x.Tx,dI x.Lo,dI x.Hi,dI x.Mode]
abbrev j6(x:zP):List C:=[dI x.Tx,.d<|.sl 2<|List.map zi x.Writes]
abbrev zE(x:zt):List C:=[dI x.Me,.d<|.sl 2<|List.map zd x.Own,.d<|.sl 2<|List.map zd x.Frozen,.d<|.sl 2<|List.map zi x.Cells,.d<|.sl 4<|List.map zk x.Locks,.d<|.sl 2<|List.map zx x.Helds,.d<|.sl 1<|List.map zl x.Wounded,.d<|.sl 1<|List.map zl x.Ended,dI x.Rank]
end Go.AW
