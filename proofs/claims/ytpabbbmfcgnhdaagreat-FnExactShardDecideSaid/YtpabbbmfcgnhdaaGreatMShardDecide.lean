/- Plain functions that say what functions of the program compute. Conditions: none. -/
import Derived.Test.YtpabbbmfcgnhdaaGreatYs
import Derived.Test.YtpabbbmfcgnhdaaGreatYi
set_option linter.unusedVariables false
set_option linter.unusedSimpArgs false
set_option maxRecDepth 100000
namespace Go.AW
structure zw where
 Lo:Int
 Hi:Int
deriving DecidableEq
def Xr(x:zw):Prop:=inK .i64 x.Lo∧inK .i64 x.Hi
structure zj where
 Key:Int
 Value:Int
deriving DecidableEq
def xk(x:zj):Prop:=inK .i64 x.Key∧inK .i64 x.Value
structure zC where
 Tx:Int
 Lo:Int
 Hi:Int
 Mode:Int
deriving DecidableEq
def zbJ(x:zC):Prop:=inK .i64 x.Tx∧inK .i64 x.Lo∧inK .i64 x.Hi∧inK .i64 x.Mode
structure zL where
 Tx:Int
 Writes:(List zj)
deriving DecidableEq
def XS(x:zL):Prop:=inK .i64 x.Tx∧okS xk x.Writes
structure zp where
 Me:Int
 Own:(List zw)
 Frozen:(List zw)
 Cells:(List zj)
 Locks:(List zC)
 Helds:(List zL)
 Wounded:(List Int)
 Ended:(List Int)
 Rank:Int
deriving DecidableEq
def zay(x:zp):Prop:=inK .i64 x.Me∧okS Xr x.Own∧okS Xr x.Frozen∧okS xk x.Cells∧okS zbJ x.Locks∧okS XS x.Helds∧okS (inK .i64) x.Wounded∧okS (inK .i64) x.Ended∧inK .i64 x.Rank
abbrev zg(x:zw):List D:=[.int .i64 x.Lo,.int .i64 x.Hi]
abbrev zd(x:zj):List D:=[.int .i64 x.Key,.int .i64 x.Value]
abbrev zo(x:zC):List D:=[.int .i64 x.Tx,.int .i64 x.Lo,.int .i64 x.Hi,.int .i64 x.Mode]
abbrev zx(x:zL):List D:=[.int .i64 x.Tx,.sl 2<|List.map zd x.Writes]
abbrev zm(x:Int):List D:=[.int .i64 x]
abbrev zT(x:zp):List D:=[.int .i64 x.Me,.sl 2<|List.map zg x.Own,.sl 2<|List.map zg x.Frozen,.sl 2<|List.map zd x.Cells,.sl 4<|List.map zo x.Locks,.sl 2<|List.map zx x.Helds,.sl 1<|List.map zm x.Wounded,.sl 1<|List.map zm x.Ended,.int .i64 x.Rank]
abbrev Z8(x:(List Int)):List D:=[.sl 1 (List.map zm x)]
abbrev zdt(x:(List zj)):List D:=[.sl 2 (List.map zd x)]
abbrev zi0(x:(List zL)):List D:=[.sl 2 (List.map zx x)]
abbrev zh4(x:(List zC)):List D:=[.sl 4 (List.map zo x)]
abbrev zdL(x:(List zw)):List D:=[.sl 2 (List.map zg x)]
abbrev ztK(x:Bool):List D:=[.bool x]
def ZM(a1:(List zw))(a2:Int):Option Int:=
 if (IntKind.wrap .i64 (a2 - (a1.length:Int))) < 0 then(some (-1)) else(some<|IntKind.wrap .i64 (a2 - (a1.length:Int)))
def JF(a1:(List zj))(a2:Int):Option Int:=
 if (IntKind.wrap .i64 (a2 - (a1.length:Int))) < 0 then(some (-1)) else(some<|IntKind.wrap .i64 (a2 - (a1.length:Int)))
def Yg(a1:(List zC))(a2:Int):Option Int:=
 if (IntKind.wrap .i64 (a2 - (a1.length:Int))) < 0 then(some (-1)) else(some<|IntKind.wrap .i64 (a2 - (a1.length:Int)))
def Jd(a1:(List zj))(a2:Int):Option Int:=
 if (IntKind.wrap .i64 (a2 - (a1.length:Int))) < 0 then(some (-1)) else(some<|IntKind.wrap .i64 (a2 - (a1.length:Int)))
def xd(a1:zL)(a2:Int):Option Int:=
 (Jd a1.Writes a2).bind fun v3=>(if v3 < 0 then(some (-1)) else(some v3))
def xW(t4:Int):Option Int:=
 some t4
def xT(a1:(List zL))(kx5:(Int→Option Int))(kb7:((Int×Int)→Option Int))(s6:(Int×Int)):Option Int:=
 if s6.2 < (a1.length:Int) then((idx a1 s6.2).bind fun v9=>(xd v9 s6.1).bind fun v11=>(if v11 < 0 then(some (-1)) else(kb7 (v11,IntKind.wrap .i64 (s6.2+1))))) else(kx5 s6.1)
def Ye(a1:(List zL))(a2:Int):Option Int:=
 if (IntKind.wrap .i64 (a2 - (a1.length:Int))) < 0 then(some (-1)) else(iter (xT a1 xW) FU (IntKind.wrap .i64 (a2 - (a1.length:Int)),0))
def Ji(a1:(List Int))(a2:Int):Option Int:=
 if (IntKind.wrap .i64 (a2 - (a1.length:Int))) < 0 then(some (-1)) else(some<|IntKind.wrap .i64 (a2 - (a1.length:Int)))
def JI(a1:zp)(a2:Int):Option Int:=
 (ZM a1.Own a2).bind fun v3=>(if v3 < 0 then(some (-1)) else((ZM a1.Frozen v3).bind fun v6=>(if v6 < 0 then(some (-1)) else((JF a1.Cells v6).bind fun v9=>(if v9 < 0 then(some (-1)) else((Yg a1.Locks v9).bind fun v12=>(if v12 < 0 then(some (-1)) else((Ye a1.Helds v12).bind fun v15=>(if v15 < 0 then(some (-1)) else((Ji a1.Wounded v15).bind fun v18=>(if v18 < 0 then(some (-1)) else((Ji a1.Ended v18).bind fun v21=>(if v21 < 0 then(some (-1)) else(some v21))))))))))))))
def kX(a1:zw):Option zw:=
 some a1
def YS(t3:(List zw)):Option (List zw):=
 some t3
def Yr(a1:(List zw))(kx4:((List zw)→Option (List zw)))(kb6:(((List zw)×Int)→Option (List zw)))(s5:((List zw)×Int)):Option (List zw):=
 if s5.2 < (a1.length:Int) then((idx a1 s5.2).bind fun v8=>(kX v8).bind fun v10=>(idx s5.1 s5.2).bind fun v12=>kb6 (s5.1.set (Int.toNat s5.2) v10,IntKind.wrap .i64 (s5.2+1))) else(kx4 s5.1)
def ZL(a1:(List zw)):Option (List zw):=
 if 0≤(a1.length:Int)∧(a1.length:Int)≤2147483648 then(iter (Yr a1 YS) FU (List.replicate (Int.toNat (a1.length:Int))<|zw.mk 0 0,0)) else none
def XF(a1:zj):Option zj:=
 some a1
def xz(t3:(List zj)):Option (List zj):=
 some t3
def xq(a1:(List zj))(kx4:((List zj)→Option (List zj)))(kb6:(((List zj)×Int)→Option (List zj)))(s5:((List zj)×Int)):Option (List zj):=
 if s5.2 < (a1.length:Int) then((idx a1 s5.2).bind fun v8=>(XF v8).bind fun v10=>(idx s5.1 s5.2).bind fun v12=>kb6 (s5.1.set (Int.toNat s5.2) v10,IntKind.wrap .i64 (s5.2+1))) else(kx4 s5.1)
def Yl(a1:(List zj)):Option (List zj):=
 if 0≤(a1.length:Int)∧(a1.length:Int)≤2147483648 then(iter (xq a1 xz) FU (List.replicate (Int.toNat (a1.length:Int))<|zj.mk 0 0,0)) else none
def XD(a1:zC):Option zC:=
 some a1
def xB(t3:(List zC)):Option (List zC):=
 some t3
def xF(a1:(List zC))(kx4:((List zC)→Option (List zC)))(kb6:(((List zC)×Int)→Option (List zC)))(s5:((List zC)×Int)):Option (List zC):=
 if s5.2 < (a1.length:Int) then((idx a1 s5.2).bind fun v8=>(XD v8).bind fun v10=>(idx s5.1 s5.2).bind fun v12=>kb6 (s5.1.set (Int.toNat s5.2) v10,IntKind.wrap .i64 (s5.2+1))) else(kx4 s5.1)
def JH(a1:(List zC)):Option (List zC):=
 if 0≤(a1.length:Int)∧(a1.length:Int)≤2147483648 then(iter (xF a1 xB) FU (List.replicate (Int.toNat (a1.length:Int))<|zC.mk 0 0 0 0,0)) else none
def kC(a1:zj):Option zj:=
 some a1
def YG(t3:(List zj)):Option (List zj):=
 some t3
def YP(a1:(List zj))(kx4:((List zj)→Option (List zj)))(kb6:(((List zj)×Int)→Option (List zj)))(s5:((List zj)×Int)):Option (List zj):=
 if s5.2 < (a1.length:Int) then((idx a1 s5.2).bind fun v8=>(kC v8).bind fun v10=>(idx s5.1 s5.2).bind fun v12=>kb6 (s5.1.set (Int.toNat s5.2) v10,IntKind.wrap .i64 (s5.2+1))) else(kx4 s5.1)
def Q0(a1:(List zj)):Option (List zj):=
 if 0≤(a1.length:Int)∧(a1.length:Int)≤2147483648 then(iter (YP a1 YG) FU (List.replicate (Int.toNat (a1.length:Int))<|zj.mk 0 0,0)) else none
def xi(a1:zL):Option zL:=
 (Q0 a1.Writes).bind fun v2=>some (zL.mk a1.Tx v2)
def xt(t3:(List zL)):Option (List zL):=
 some t3
def xC(a1:(List zL))(kx4:((List zL)→Option (List zL)))(kb6:(((List zL)×Int)→Option (List zL)))(s5:((List zL)×Int)):Option (List zL):=
 if s5.2 < (a1.length:Int) then((idx a1 s5.2).bind fun v8=>(xi v8).bind fun v10=>(idx s5.1 s5.2).bind fun v12=>kb6 (s5.1.set (Int.toNat s5.2) v10,IntKind.wrap .i64 (s5.2+1))) else(kx4 s5.1)
def J3(a1:(List zL)):Option (List zL):=
 if 0≤(a1.length:Int)∧(a1.length:Int)≤2147483648 then(iter (xC a1 xt) FU (List.replicate (Int.toNat (a1.length:Int))<|zL.mk 0 ([]:(List zj)),0)) else none
def kt(t3:(List Int)):Option (List Int):=
 some t3
def kU(a1:(List Int))(kx4:((List Int)→Option (List Int)))(kb6:(((List Int)×Int)→Option (List Int)))(s5:((List Int)×Int)):Option (List Int):=
 if s5.2 < (a1.length:Int) then((idx a1 s5.2).bind fun v8=>(idx s5.1 s5.2).bind fun v10=>kb6 (s5.1.set (Int.toNat s5.2) v8,IntKind.wrap .i64 (s5.2+1))) else(kx4 s5.1)
def Jk(a1:(List Int)):Option (List Int):=
 if 0≤(a1.length:Int)∧(a1.length:Int)≤2147483648 then(iter (kU a1 kt) FU (List.replicate (Int.toNat (a1.length:Int)) 0,0)) else none
def yQ(a1:zp):Option zp:=
 (ZL a1.Own).bind fun v2=>(ZL a1.Frozen).bind fun v4=>(Yl a1.Cells).bind fun v6=>(JH a1.Locks).bind fun v8=>(J3 a1.Helds).bind fun v10=>(Jk a1.Wounded).bind fun v12=>(Jk a1.Ended).bind fun v14=>some (zp.mk a1.Me v2 v4 v6 v8 v10 v12 v14 a1.Rank)
def Zg(a1:Int)(a2:Int)(a3:Int):Option Bool:=
 if a2≤a1 then(some<|decide (a1≤a3)) else(some false)
def jB(a1:zw):Option Bool:=
 if 0≤a1.Lo then(if a1.Lo < a1.Hi then(some<|decide (a1.Hi≤1000)) else(some false)) else(some false)
def Xs(t3:Unit):Option Bool:=
 some true
def Zp(kb6:(Int→Option Bool))(s5:Int)(t8:Bool):Option Bool:=
 if t8=true then(some false) else(kb6<|IntKind.wrap .i64 (s5+1))
def YA(a1:(List zw))(kx4:(Unit→Option Bool))(kb6:(Int→Option Bool))(s5:Int):Option Bool:=
 if s5 < (a1.length:Int) then((idx a1 s5).bind fun v11=>(jB v11).bind fun v13=>(if v13=true then(if 0 < s5 then((idx a1 s5).bind fun v17=>(idx a1<|IntKind.wrap .i64 (s5 - 1)).bind fun v19=>(Zp kb6 s5) (decide (v17.Lo < v19.Hi))) else((Zp kb6 s5) false)) else((Zp kb6 s5) true))) else(kx4 ())
def y4(a1:(List zw)):Option Bool:=
 if 16 < (a1.length:Int) then(some false) else(iter (YA a1 Xs) FU 0)
def Jg(a1:Int):Option Bool:=
 (Zg a1 0 999).bind fun v2=>some v2
def Yn(a1:Int):Option Bool:=
 (Zg a1 0 1000000000).bind fun v2=>some v2
def X7(t3:Unit):Option Bool:=
 some true
def yZ(kb6:(Int→Option Bool))(s5:Int)(t8:Bool):Option Bool:=
 if t8=true then(some false) else(kb6<|IntKind.wrap .i64 (s5+1))
def xv(a1:(List zj))(kx4:(Unit→Option Bool))(kb6:(Int→Option Bool))(s5:Int):Option Bool:=
 if s5 < (a1.length:Int) then((idx a1 s5).bind fun v11=>(Jg v11.Key).bind fun v13=>(if v13=true then((idx a1 s5).bind fun v16=>(Yn v16.Value).bind fun v18=>(if v18=true then(if 0 < s5 then((idx a1<|IntKind.wrap .i64 (s5 - 1)).bind fun v22=>(idx a1 s5).bind fun v24=>(yZ kb6 s5) (decide (v24.Key≤v22.Key))) else((yZ kb6 s5) false)) else((yZ kb6 s5) true))) else((yZ kb6 s5) true))) else(kx4 ())
def Zy(a1:(List zj)):Option Bool:=
 if 60 < (a1.length:Int) then(some false) else(iter (xv a1 X7) FU 0)
def ZX(a1:Int):Option Bool:=
 (Zg a1 1 60).bind fun v2=>some v2
def jz(a1:zC):Option zw:=
 some (zw.mk a1.Lo a1.Hi)
def J1(a1:Int):Option Bool:=
 if a1=1 then(some true) else(some<|decide (a1=2))
def k9(a1:Int)(a2:Int):Option Int:=
 if a2 < a1 then(some a1) else(some a2)
def kW(a1:Int)(a2:Int):Option Int:=
 if a1 < a2 then(some a1) else(some a2)
def yU(v3:Int)(v5:Int)(t7:Bool):Option (zw×Bool):=
 if t7=true then(some (zw.mk 0 0,false)) else(some (zw.mk v3 v5,true))
def Qp(a1:zw)(a2:zw):Option (zw×Bool):=
 (k9 a1.Lo a2.Lo).bind fun v3=>(kW a1.Hi a2.Hi).bind fun v5=>(jB a1).bind fun v10=>(if v10=true then((jB a2).bind fun v13=>(if v13=true then((jB<|zw.mk v3 v5).bind fun v16=>(yU v3 v5) (!v16)) else((yU v3 v5) true))) else((yU v3 v5) true))
def Q2(a1:zC)(a2:zC):Option Bool:=
 (jz a1).bind fun v3=>(jz a2).bind fun v5=>(Qp v3 v5).bind fun v7=>(if v7.2=true then(if ¬a1.Tx=a2.Tx then(if a1.Mode=2 then(some true) else(some<|decide (a2.Mode=2))) else(some false)) else(some false))
def X8(t3:Unit):Option Bool:=
 some true
def y6(kb6:(Int→Option Bool))(s5:Int)(t8:Unit):Option Bool:=
 kb6 (IntKind.wrap .i64 (s5+1))
def YO(s5:Int)(a1:(List zC))(kx9:(Unit→Option Bool))(kb14:(Int→Option Bool))(s13:Int):Option Bool:=
 if s13 < s5 then((idx a1 s5).bind fun v16=>(idx a1 s13).bind fun v18=>(Q2 v16 v18).bind fun v20=>(if v20=true then(some false) else(kb14<|IntKind.wrap .i64 (s13+1)))) else(kx9 ())
def Zo(s5:Int)(a1:(List zC))(kx9:(Unit→Option Bool))(t10:Bool):Option Bool:=
 if t10=true then(some false) else(iter (YO s5 a1 kx9) FU 0)
def xO(a1:(List zC))(kx4:(Unit→Option Bool))(kb6:(Int→Option Bool))(s5:Int):Option Bool:=
 if s5 < (a1.length:Int) then((idx a1 s5).bind fun v23=>(ZX v23.Tx).bind fun v25=>(if v25=true then((idx a1 s5).bind fun v28=>(jz v28).bind fun v30=>(jB v30).bind fun v32=>(if v32=true then((idx a1 s5).bind fun v35=>(J1 v35.Mode).bind fun v37=>(Zo s5 a1<|y6 kb6 s5) (!v37)) else((Zo s5 a1<|y6 kb6 s5) true))) else((Zo s5 a1<|y6 kb6 s5) true))) else(kx4 ())
def JO(a1:(List zC)):Option Bool:=
 if 40 < (a1.length:Int) then(some false) else(iter (xO a1 X8) FU 0)
def KR(t2:Unit):Option Bool:=
 some true
def Qo(kb5:(Int→Option Bool))(s4:Int)(t7:Bool):Option Bool:=
 if t7=true then(some false) else(kb5<|IntKind.wrap .i64 (s4+1))
def ku(a1:(List Int))(kx3:(Unit→Option Bool))(kb5:(Int→Option Bool))(s4:Int):Option Bool:=
 if s4 < (a1.length:Int) then((idx a1 s4).bind fun v10=>(ZX v10).bind fun v12=>(if v12=true then(if 0 < s4 then((idx a1<|IntKind.wrap .i64 (s4 - 1)).bind fun v16=>(idx a1 s4).bind fun v18=>(Qo kb5 s4) (decide (v18≤v16))) else((Qo kb5 s4) false)) else((Qo kb5 s4) true))) else(kx3 ())
def Jh(a1:(List Int)):Option Bool:=
 iter (ku a1 KR) FU 0
def QT(a2:zw)(t6:Int):Option Bool:=
 some (decide (a2.Hi≤t6))
def Zc(a1:(List zw))(s8:(Int×Int))(kb9:((Int×Int)→Option Bool))(t11:Bool):Option Bool:=
 if t11=true then((idx a1 s8.2).bind fun v14=>kb9 (v14.Hi,IntKind.wrap .i64 (s8.2+1))) else(kb9 (s8.1,IntKind.wrap .i64 (s8.2+1)))
def QK(a1:(List zw))(kx7:(Int→Option Bool))(kb9:((Int×Int)→Option Bool))(s8:(Int×Int)):Option Bool:=
 if s8.2 < (a1.length:Int) then((idx a1 s8.2).bind fun v16=>(if v16.Lo≤s8.1 then((idx a1 s8.2).bind fun v19=>(Zc a1 s8 kb9) (decide (s8.1 < v19.Hi))) else((Zc a1 s8 kb9) false))) else(kx7 s8.1)
def yf(a1:(List zw))(a2:zw)(t3:Bool):Option Bool:=
 if t3=true then(some false) else(iter (QK a1<|QT a2) FU (a2.Lo,0))
def yu(a1:(List zw))(a2:zw):Option Bool:=
 (y4 a1).bind fun v21=>(if v21=true then((jB a2).bind fun v24=>(yf a1 a2) (!v24)) else((yf a1 a2) true))
def xb(a1:Int):Option zw:=
 some (zw.mk a1<|IntKind.wrap .i64 (a1+1))
def kQ(t3:Unit):Option Bool:=
 some false
def kD(a1:(List Int))(a2:Int)(kx4:(Unit→Option Bool))(kb6:(Int→Option Bool))(s5:Int):Option Bool:=
 if s5 < (a1.length:Int) then((idx a1 s5).bind fun v8=>(if v8=a2 then(some true) else(kb6<|IntKind.wrap .i64 (s5+1)))) else(kx4 ())
def yt(a1:(List Int))(a2:Int):Option Bool:=
 iter (kD a1 a2 kQ) FU 0
def Xl(t3:Unit):Option Bool:=
 some true
def yI(kb6:(Int→Option Bool))(s5:Int)(t8:Bool):Option Bool:=
 if t8=true then(some false) else(kb6<|IntKind.wrap .i64 (s5+1))
def YX(a1:(List zj))(kx4:(Unit→Option Bool))(kb6:(Int→Option Bool))(s5:Int):Option Bool:=
 if s5 < (a1.length:Int) then((idx a1 s5).bind fun v11=>(Jg v11.Key).bind fun v13=>(if v13=true then((idx a1 s5).bind fun v16=>(Zg v16.Value (-1) 1000000000).bind fun v18=>(if v18=true then(if 0 < s5 then((idx a1<|IntKind.wrap .i64 (s5 - 1)).bind fun v22=>(idx a1 s5).bind fun v24=>(yI kb6 s5) (decide (v24.Key≤v22.Key))) else((yI kb6 s5) false)) else((yI kb6 s5) true))) else((yI kb6 s5) true))) else(kx4 ())
def yD(a1:(List zj)):Option Bool:=
 if 60 < (a1.length:Int) then(some false) else(iter (YX a1 Xl) FU 0)
def JD(a1:zw)(a2:zw):Option Bool:=
 (jB a1).bind fun v3=>(if v3=true then((jB a2).bind fun v6=>(if v6=true then(if a2.Lo≤a1.Lo then(some<|decide (a1.Hi≤a2.Hi)) else(some false)) else(some false))) else(some false))
def Xt(t5:Unit):Option Bool:=
 some false
def yV(kb8:(Int→Option Bool))(s7:Int)(t10:Bool):Option Bool:=
 if t10=true then(some true) else(kb8<|IntKind.wrap .i64 (s7+1))
def YZ(a1:(List zC))(a2:Int)(a3:zw)(a4:Int)(kx6:(Unit→Option Bool))(kb8:(Int→Option Bool))(s7:Int):Option Bool:=
 if s7 < (a1.length:Int) then((idx a1 s7).bind fun v13=>(if v13.Tx=a2 then((idx a1 s7).bind fun v16=>(jz v16).bind fun v18=>(JD a3 v18).bind fun v20=>(if v20=true then((idx a1 s7).bind fun v23=>(yV kb8 s7) (decide (a4≤v23.Mode))) else((yV kb8 s7) false))) else((yV kb8 s7) false))) else(kx6 ())
def Q3(a1:(List zC))(a2:Int)(a3:zw)(a4:Int):Option Bool:=
 iter (YZ a1 a2 a3 a4 Xt) FU 0
def x9(t2:Unit):Option Bool:=
 some true
def qZ(kb5:(Int→Option Bool))(s4:Int)(t7:Unit):Option Bool:=
 kb5 (IntKind.wrap .i64 (s4+1))
def Zb(kx8:(Unit→Option Bool))(t16:Bool):Option Bool:=
 if t16=true then(some false) else(kx8 ())
def Qd(a1:zp)(v9:zL)(kx8:(Unit→Option Bool))(t14:Unit):Option Bool:=
 (yt a1.Wounded v9.Tx).bind fun v19=>(if v19=true then((Zb kx8) true) else((yt a1.Ended v9.Tx).bind fun v22=>(Zb kx8) v22))
def Qc(v9:zL)(a1:zp)(kx15:(Unit→Option Bool))(kb25:(Int→Option Bool))(s24:Int):Option Bool:=
 if s24 < (v9.Writes.length:Int) then((idx v9.Writes s24).bind fun v27=>(xb v27.Key).bind fun v29=>(Q3 a1.Locks v9.Tx v29 2).bind fun v31=>(if v31=true then(kb25<|IntKind.wrap .i64 (s24+1)) else(some false))) else(kx15 ())
def ji(v9:zL)(a1:zp)(kx8:(Unit→Option Bool))(t11:Bool):Option Bool:=
 if t11=true then(some false) else(iter (Qc v9 a1<|Qd a1 v9 kx8) FU 0)
def QL(a1:zp)(kx3:(Unit→Option Bool))(kb5:(Int→Option Bool))(s4:Int):Option Bool:=
 if s4 < (a1.Helds.length:Int) then((idx a1.Helds s4).bind fun v9=>(ZX v9.Tx).bind fun v34=>(if v34=true then(if 0 < s4 then((idx a1.Helds<|IntKind.wrap .i64 (s4 - 1)).bind fun v38=>(if v9.Tx≤v38.Tx then((ji v9 a1<|qZ kb5 s4) true) else((yD v9.Writes).bind fun v41=>(ji v9 a1<|qZ kb5 s4) (!v41)))) else((yD v9.Writes).bind fun v43=>(ji v9 a1<|qZ kb5 s4) (!v43))) else((ji v9 a1<|qZ kb5 s4) true))) else(kx3 ())
def ZS(a1:zp):Option Bool:=
 iter (QL a1 x9) FU 0
def KE(t3:Unit):Option Int:=
 some (-1)
def ko(a1:(List zj))(a2:Int)(kx4:(Unit→Option Int))(kb6:(Int→Option Int))(s5:Int):Option Int:=
 if s5 < (a1.length:Int) then((idx a1 s5).bind fun v8=>(if v8.Key=a2 then((idx a1 s5).bind fun v11=>some v11.Value) else(kb6<|IntKind.wrap .i64 (s5+1)))) else(kx4 ())
def Y7(a1:(List zj))(a2:Int):Option Int:=
 iter (ko a1 a2 KE) FU 0
def YT(t6:Int):Option Int:=
 some t6
def Z0(kb9:((Int×Int)→Option Int))(s8:(Int×Int))(t11:Bool):Option Int:=
 if t11=true then(kb9 (IntKind.wrap .i64 (s8.1+1),IntKind.wrap .i64 (s8.2+1))) else(kb9 (s8.1,IntKind.wrap .i64 (s8.2+1)))
def Yw(a2:(List zj))(a1:(List zj))(kx7:(Int→Option Int))(kb9:((Int×Int)→Option Int))(s8:(Int×Int)):Option Int:=
 if s8.2 < (a2.length:Int) then((idx a2 s8.2).bind fun v14=>(if 0≤v14.Value then((idx a2 s8.2).bind fun v17=>(Y7 a1 v17.Key).bind fun v19=>(Z0 kb9 s8) (decide (v19 < 0))) else((Z0 kb9 s8) false))) else(kx7 s8.1)
def Qq(a2:(List zj))(a1:(List zj))(t3:Bool):Option Int:=
 if t3=true then(some (-1)) else(iter (Yw a2 a1 YT) FU (0,0))
def Ja(a1:(List zj))(a2:(List zj)):Option Int:=
 (Zy a1).bind fun v21=>(if v21=true then((yD a2).bind fun v24=>(Qq a2 a1) (!v24)) else((Qq a2 a1) true))
def k8(t2:Int):Option Int:=
 some t2
def kN(a1:zp)(kx3:(Int→Option Int))(kb5:((Int×Int)→Option Int))(s4:(Int×Int)):Option Int:=
 if s4.2 < (a1.Helds.length:Int) then((idx a1.Helds s4.2).bind fun v7=>(Ja a1.Cells v7.Writes).bind fun v9=>kb5 (IntKind.wrap .i64 (s4.1+v9),IntKind.wrap .i64 (s4.2+1))) else(kx3 s4.1)
def xh(a1:zp):Option Int:=
 iter (kN a1 k8) FU (0,0)
def QA(a1:zp)(t14:Unit):Option Bool:=
 (ZS a1).bind fun v16=>(if v16=true then((xh a1).bind fun v19=>some (decide ((IntKind.wrap .i64 ((a1.Cells.length:Int)+v19))≤60))) else(some false))
def Yv(a1:zp)(kx15:(Unit→Option Bool))(kb22:(Int→Option Bool))(s21:Int):Option Bool:=
 if s21 < (a1.Wounded.length:Int) then((idx a1.Wounded s21).bind fun v24=>(yt a1.Ended v24).bind fun v26=>(if v26=true then(some false) else(kb22<|IntKind.wrap .i64 (s21+1)))) else(kx15 ())
def Qh(a1:zp)(t12:Unit):Option Bool:=
 iter (Yv a1<|QA a1) FU 0
def Zl(kb30:(Int→Option Bool))(s29:Int)(t34:Bool):Option Bool:=
 if t34=true then(some false) else(kb30<|IntKind.wrap .i64 (s29+1))
def Yp(a1:zp)(kx13:(Unit→Option Bool))(kb30:(Int→Option Bool))(s29:Int):Option Bool:=
 if s29 < (a1.Locks.length:Int) then((idx a1.Locks s29).bind fun v32=>(jz v32).bind fun v37=>(yu a1.Own v37).bind fun v39=>(if v39=true then((yt a1.Wounded v32.Tx).bind fun v42=>(if v42=true then((Zl kb30 s29) true) else((yt a1.Ended v32.Tx).bind fun v45=>(Zl kb30 s29) v45))) else((Zl kb30 s29) true))) else(kx13 ())
def QB(a1:zp)(t10:Unit):Option Bool:=
 iter (Yp a1<|Qh a1) FU 0
def Yt(a1:zp)(kx11:(Unit→Option Bool))(kb48:(Int→Option Bool))(s47:Int):Option Bool:=
 if s47 < (a1.Cells.length:Int) then((idx a1.Cells s47).bind fun v50=>(xb v50.Key).bind fun v52=>(yu a1.Own v52).bind fun v54=>(if v54=true then(kb48<|IntKind.wrap .i64 (s47+1)) else(some false))) else(kx11 ())
def Q1(a1:zp)(t8:Unit):Option Bool:=
 iter (Yt a1<|QB a1) FU 0
def YM(a1:zp)(kx9:(Unit→Option Bool))(kb58:(Int→Option Bool))(s57:Int):Option Bool:=
 if s57 < (a1.Frozen.length:Int) then((idx a1.Frozen s57).bind fun v60=>(yu a1.Own v60).bind fun v62=>(if v62=true then(kb58<|IntKind.wrap .i64 (s57+1)) else(some false))) else(kx9 ())
def jQ(a1:zp)(t5:Bool):Option Bool:=
 if t5=true then(some false) else(iter (YM a1<|Q1 a1) FU 0)
def jR(a1:zp)(t2:Bool):Option Bool:=
 if t2=true then(some false) else(if 60 < (a1.Helds.length:Int) then((jQ a1) true) else(if 60 < (a1.Wounded.length:Int) then((jQ a1) true) else(if 60 < (a1.Ended.length:Int) then((jQ a1) true) else((Jh a1.Wounded).bind fun v68=>(if v68=true then((Jh a1.Ended).bind fun v71=>(jQ a1) (!v71)) else((jQ a1) true))))))
def J6(a1:zp):Option Bool:=
 (Zg a1.Me 0 3).bind fun v73=>(if v73=true then((y4 a1.Own).bind fun v76=>(if v76=true then((y4 a1.Frozen).bind fun v79=>(if v79=true then((Zy a1.Cells).bind fun v82=>(if v82=true then((JO a1.Locks).bind fun v85=>(if v85=true then((Zg a1.Rank 0 1000000).bind fun v88=>(jR a1) (!v88)) else((jR a1) true))) else((jR a1) true))) else((jR a1) true))) else((jR a1) true))) else((jR a1) true))
def xo(a1:zp)(t6:(List zL)):Option zp:=
 if a1.Wounded.length≤2147483648 then(if a1.Ended.length≤2147483648 then(some<|zp.mk a1.Me a1.Own a1.Frozen a1.Cells a1.Locks t6 a1.Wounded a1.Ended a1.Rank) else none) else none
def YI(a1:zp)(kx7:((List zL)→Option zp))(kb11:((Int×(List zL))→Option zp))(s10:(Int×(List zL))):Option zp:=
 if s10.1 < (a1.Helds.length:Int) then((idx a1.Helds s10.1).bind fun v13=>(if v13.Writes.length≤2147483648 then(if (s10.2++[v13]).length≤2147483648 then(kb11 (IntKind.wrap .i64 (s10.1+1),s10.2++[v13])) else none) else none)) else(kx7 s10.2)
def JQ(a1:zp):Option zp:=
 if a1.Own.length≤2147483648 then(if a1.Frozen.length≤2147483648 then(if a1.Cells.length≤2147483648 then(if a1.Locks.length≤2147483648 then(iter (YI a1<|xo a1) FU (0,([]:List zL))) else none) else none) else none) else none
def xu(a2:Int)(a3:Int)(t5:((List zj)×Bool)):Option (List zj):=
 if t5.2=true then(some t5.1) else(if (t5.1++([zj.mk a2 a3])).length≤2147483648 then(some (t5.1++([zj.mk a2 a3]))) else none)
def Zu(a1:(List zj))(s9:((List zj)×Bool×Int))(a2:Int)(kb10:(((List zj)×Bool×Int)→Option (List zj)))(t12:((List zj)×Bool)):Option (List zj):=
 (idx a1 s9.2.2).bind fun v14=>(if ¬v14.Key=a2 then((idx a1 s9.2.2).bind fun v17=>(if (t12.1++([v17])).length≤2147483648 then(kb10 (t12.1++([v17]),t12.2,IntKind.wrap .i64 (s9.2.2+1))) else none)) else(kb10 (t12.1,t12.2,IntKind.wrap .i64 (s9.2.2+1))))
def Qk(s9:((List zj)×Bool×Int))(a2:Int)(a3:Int)(kx13:(((List zj)×Bool)→Option (List zj)))(t20:Bool):Option (List zj):=
 if t20=true then(if (s9.1++([zj.mk a2 a3])).length≤2147483648 then(kx13 (s9.1++([zj.mk a2 a3]),true)) else none) else(kx13 (s9.1,s9.2.1))
def xD(a1:(List zj))(a2:Int)(a3:Int)(kx6:(((List zj)×Bool)→Option (List zj)))(kb10:(((List zj)×Bool×Int)→Option (List zj)))(s9:((List zj)×Bool×Int)):Option (List zj):=
 if s9.2.2 < (a1.length:Int) then(if s9.2.1=true then((Qk s9 a2 a3<|Zu a1 s9 a2 kb10) false) else((idx a1 s9.2.2).bind fun v25=>(Qk s9 a2 a3<|Zu a1 s9 a2 kb10) (decide (a2≤v25.Key)))) else(kx6 (s9.1,s9.2.1))
def JU(a1:(List zj))(a2:Int)(a3:Int)(a4:Bool):Option (List zj):=
 iter (xD a1 a2 a3<|xu a2 a3) FU (([]:List zj),!a4,0)
def QY(t7:(List zj)):Option ((List zj)×Bool):=
 if 60 < ((t7.length:Nat):Int) then(some (([]:(List zj)),false)) else(some (t7,true))
def Qb(a2:(List zj))(kx8:((List zj)→Option ((List zj)×Bool)))(kb11:(((List zj)×Int)→Option ((List zj)×Bool)))(s10:((List zj)×Int)):Option ((List zj)×Bool):=
 if s10.2 < (a2.length:Int) then((idx a2 s10.2).bind fun v13=>(idx a2 s10.2).bind fun v15=>(idx a2 s10.2).bind fun v17=>(JU s10.1 v13.Key v15.Value<|decide (0≤v17.Value)).bind fun v19=>kb11 (v19,IntKind.wrap .i64 (s10.2+1))) else(kx8 s10.1)
def ZC(a1:(List zj))(a2:(List zj))(t3:Bool):Option ((List zj)×Bool):=
 if t3=true then(some (([]:(List zj)),false)) else(if a1.length≤2147483648 then(iter (Qb a2 QY) FU (a1,0)) else none)
def ZV(a1:(List zj))(a2:(List zj)):Option ((List zj)×Bool):=
 (Zy a1).bind fun v21=>(if v21=true then((yD a2).bind fun v24=>(ZC a1 a2) (!v24)) else((ZC a1 a2) true))
def xE(t4:(List zC)):Option (List zC):=
 some t4
def xn(a1:(List zC))(a2:Int)(a3:Bool)(kx5:((List zC)→Option (List zC)))(kb7:(((List zC)×Int)→Option (List zC)))(s6:((List zC)×Int)):Option (List zC):=
 if s6.2 < (a1.length:Int) then((idx a1 s6.2).bind fun v9=>(if ((decide (v9.Tx=a2)) == a3)=true then((idx a1 s6.2).bind fun v12=>(if (s6.1++([v12])).length≤2147483648 then(kb7 (s6.1++([v12]),IntKind.wrap .i64 (s6.2+1))) else none)) else(kb7 (s6.1,IntKind.wrap .i64 (s6.2+1))))) else(kx5 s6.1)
def JR(a1:(List zC))(a2:Int)(a3:Bool):Option (List zC):=
 iter (xn a1 a2 a3 xE) FU (([]:List zC),0)
def xM(t3:(List Int)):Option (List Int):=
 some t3
def xS(a1:(List Int))(a2:Int)(kx4:((List Int)→Option (List Int)))(kb6:(((List Int)×Int)→Option (List Int)))(s5:((List Int)×Int)):Option (List Int):=
 if s5.2 < (a1.length:Int) then((idx a1 s5.2).bind fun v8=>(if ¬v8=a2 then((idx a1 s5.2).bind fun v11=>(if (s5.1++([v11])).length≤2147483648 then(kb6 (s5.1++([v11]),IntKind.wrap .i64 (s5.2+1))) else none)) else(kb6 (s5.1,IntKind.wrap .i64 (s5.2+1))))) else(kx4 s5.1)
def J9(a1:(List Int))(a2:Int):Option (List Int):=
 iter (xS a1 a2 xM) FU (([]:List Int),0)
def kV(a2:Int)(t3:((List Int)×Bool)):Option (List Int):=
 if t3.2=true then(some t3.1) else(if (t3.1++([a2])).length≤2147483648 then(some (t3.1++([a2]))) else none)
def ZP(a1:(List Int))(s7:((List Int)×Bool×Int))(a2:Int)(kb8:(((List Int)×Bool×Int)→Option (List Int)))(t10:((List Int)×Bool)):Option (List Int):=
 (idx a1 s7.2.2).bind fun v12=>(if ¬v12=a2 then((idx a1 s7.2.2).bind fun v15=>(if (t10.1++([v15])).length≤2147483648 then(kb8 (t10.1++([v15]),t10.2,IntKind.wrap .i64 (s7.2.2+1))) else none)) else(kb8 (t10.1,t10.2,IntKind.wrap .i64 (s7.2.2+1))))
def Je(s7:((List Int)×Bool×Int))(a2:Int)(kx11:(((List Int)×Bool)→Option (List Int)))(t18:Bool):Option (List Int):=
 if t18=true then(if (s7.1++([a2])).length≤2147483648 then(kx11 (s7.1++([a2]),true)) else none) else(kx11 (s7.1,s7.2.1))
def kK(a1:(List Int))(a2:Int)(kx4:(((List Int)×Bool)→Option (List Int)))(kb8:(((List Int)×Bool×Int)→Option (List Int)))(s7:((List Int)×Bool×Int)):Option (List Int):=
 if s7.2.2 < (a1.length:Int) then(if s7.2.1=true then((Je s7 a2<|ZP a1 s7 a2 kb8) false) else((idx a1 s7.2.2).bind fun v23=>(Je s7 a2<|ZP a1 s7 a2 kb8) (decide (a2≤v23)))) else(kx4 (s7.1,s7.2.1))
def xl(a1:(List Int))(a2:Int):Option (List Int):=
 iter (kK a1 a2<|kV a2) FU (([]:List Int),false,0)
def Z4(a1:zp)(a2:Int)(v7:zp)(t12:((List zL)×(List zj))):Option (zp×Int):=
 (JR a1.Locks a2 false).bind fun v14=>(J9 a1.Wounded a2).bind fun v16=>(xl a1.Ended a2).bind fun v18=>some (zp.mk v7.Me v7.Own v7.Frozen t12.2 v14 t12.1 v16 v18 v7.Rank,0)
def Z1(v7:zp)(a2:Int)(a3:Bool)(a1:zp)(kx13:(((List zL)×(List zj))→Option (zp×Int)))(kb21:(((List zL)×Int×(List zj))→Option (zp×Int)))(s20:((List zL)×Int×(List zj))):Option (zp×Int):=
 if s20.2.1 < (v7.Helds.length:Int) then((idx v7.Helds s20.2.1).bind fun v23=>(if ¬v23.Tx=a2 then(if (s20.1++([v23])).length≤2147483648 then(kb21 (s20.1++([v23]),IntKind.wrap .i64 (s20.2.1+1),s20.2.2)) else none) else(if a3=true then((ZV a1.Cells v23.Writes).bind fun v28=>kb21 (s20.1,IntKind.wrap .i64 (s20.2.1+1),v28.1)) else(kb21 (s20.1,IntKind.wrap .i64 (s20.2.1+1),s20.2.2))))) else(kx13 (s20.1,s20.2.2))
def yA(a1:zp)(a2:Int)(a3:Bool)(t4:Bool):Option (zp×Int):=
 if t4=true then(some (zp.mk 0 ([]:(List zw)) ([]:(List zw)) ([]:(List zj)) ([]:(List zC)) ([]:(List zL)) ([]:(List Int)) ([]:(List Int)) 0,1)) else((JQ a1).bind fun v7=>(yt a1.Ended a2).bind fun v9=>(if v9=true then(some (v7,2)) else(iter (Z1 v7 a2 a3 a1<|Z4 a1 a2 v7) FU (([]:List zL),0,v7.Cells))))
def ZG(a1:zp)(a2:Int)(a3:Bool):Option (zp×Int):=
 (J6 a1).bind fun v30=>(if v30=true then((ZX a2).bind fun v33=>(yA a1 a2 a3) (!v33)) else((yA a1 a2 a3) true))
def Zf(a1:Int)(a2:Int)(a3:Int):Option Bool:=
 if a2≤a1 then(some<|decide (a1≤a3)) else(some false)
def Yb(a1:Int):Option Bool:=
 (Zf a1 0 3).bind fun v2=>some v2
def ZF(a1:zw):Option Bool:=
 if 0≤a1.Lo then(if a1.Lo < a1.Hi then(some<|decide (a1.Hi≤1000)) else(some false)) else(some false)
def YQ(a1:(List zw))(t2:Unit):Option Bool:=
 some (decide ((a1.length:Int)≤16))
def Zj(kb5:(Int→Option Bool))(s4:Int)(t9:Bool):Option Bool:=
 if t9=true then(some false) else(kb5<|IntKind.wrap .i64 (s4+1))
def Yu(a1:(List zw))(kx3:(Unit→Option Bool))(kb5:(Int→Option Bool))(s4:Int):Option Bool:=
 if s4 < (a1.length:Int) then((idx a1 s4).bind fun v7=>(ZF v7).bind fun v12=>(if v12=true then(if 0 < s4 then((idx a1<|IntKind.wrap .i64 (s4 - 1)).bind fun v16=>(Zj kb5 s4) (decide (v7.Lo < v16.Hi))) else((Zj kb5 s4) false)) else((Zj kb5 s4) true))) else(kx3 ())
def ZN(a1:(List zw)):Option Bool:=
 iter (Yu a1<|YQ a1) FU 0
def YF(a1:Int):Option Bool:=
 (Zf a1 0 999).bind fun v2=>some v2
def Yf(a1:Int):Option Bool:=
 (Zf a1 0 1000000000).bind fun v2=>some v2
def xw(a1:(List zj))(t2:Unit):Option Bool:=
 some (decide ((a1.length:Int)≤60))
def y8(kb5:(Int→Option Bool))(s4:Int)(t9:Bool):Option Bool:=
 if t9=true then(some false) else(kb5<|IntKind.wrap .i64 (s4+1))
def xp(a1:(List zj))(kx3:(Unit→Option Bool))(kb5:(Int→Option Bool))(s4:Int):Option Bool:=
 if s4 < (a1.length:Int) then((idx a1 s4).bind fun v7=>(YF v7.Key).bind fun v12=>(if v12=true then((Yf v7.Value).bind fun v15=>(if v15=true then(if 0 < s4 then((idx a1<|IntKind.wrap .i64 (s4 - 1)).bind fun v19=>(y8 kb5 s4) (decide (v7.Key≤v19.Key))) else((y8 kb5 s4) false)) else((y8 kb5 s4) true))) else((y8 kb5 s4) true))) else(kx3 ())
def Zz(a1:(List zj)):Option Bool:=
 iter (xp a1<|xw a1) FU 0
def Yd(a1:Int):Option Bool:=
 (Zf a1 1 60).bind fun v2=>some v2
def jl(a1:zC):Option zw:=
 some (zw.mk a1.Lo a1.Hi)
def Jf(a1:Int):Option Bool:=
 if a1=1 then(some true) else(some<|decide (a1=2))
def Y0(a1:zw)(a2:zw):Option Bool:=
 if a1.Lo < a2.Hi then(some<|decide (a2.Lo < a1.Hi)) else(some false)
def kS(a1:zC)(a2:zC):Option Bool:=
 if ¬a1.Tx=a2.Tx then(if a1.Mode=2 then((jl a1).bind fun v5=>(jl a2).bind fun v7=>(Y0 v5 v7).bind fun v9=>some v9) else(if a2.Mode=2 then((jl a1).bind fun v12=>(jl a2).bind fun v14=>(Y0 v12 v14).bind fun v16=>some v16) else(some false))) else(some false)
def Qm(a1:zC)(a2:zC):Option Bool:=
 (kS a2 a1).bind fun v3=>some v3
def yc(t3:Unit):Option Int:=
 some (-1)
def jn(a1:(List zC))(a2:zC)(kx4:(Unit→Option Int))(kb6:(Int→Option Int))(s5:Int):Option Int:=
 if s5 < (a1.length:Int) then((idx a1 s5).bind fun v8=>(Qm v8 a2).bind fun v10=>(if v10=true then(some s5) else(kb6<|IntKind.wrap .i64 (s5+1)))) else(kx4 ())
def jx(a1:(List zC))(a2:zC):Option Int:=
 iter (jn a1 a2 yc) FU 0
def qE(a1:(List zC))(a2:zC):Option Bool:=
 (jx a1 a2).bind fun v3=>some (decide (0≤v3))
def xA(a1:(List zC))(t2:Unit):Option Bool:=
 some (decide ((a1.length:Int)≤40))
def y5(kb5:(Int→Option Bool))(s4:Int)(t9:Bool):Option Bool:=
 if t9=true then(some false) else(kb5<|IntKind.wrap .i64 (s4+1))
def xK(a1:(List zC))(kx3:(Unit→Option Bool))(kb5:(Int→Option Bool))(s4:Int):Option Bool:=
 if s4 < (a1.length:Int) then((idx a1 s4).bind fun v7=>(Yd v7.Tx).bind fun v12=>(if v12=true then((jl v7).bind fun v15=>(ZF v15).bind fun v17=>(if v17=true then((Jf v7.Mode).bind fun v20=>(if v20=true then((cut a1 0 s4).bind fun v23=>(qE v23 v7).bind fun v25=>(y5 kb5 s4) v25) else((y5 kb5 s4) true))) else((y5 kb5 s4) true))) else((y5 kb5 s4) true))) else(kx3 ())
def ZB(a1:(List zC)):Option Bool:=
 iter (xK a1<|xA a1) FU 0
def Q7(a1:Int):Option Bool:=
 (Zf a1 (-1) 1000000000).bind fun v2=>some v2
def Ys(a1:(List zj))(t2:Unit):Option Bool:=
 some (decide ((a1.length:Int)≤60))
def yK(kb5:(Int→Option Bool))(s4:Int)(t9:Bool):Option Bool:=
 if t9=true then(some false) else(kb5<|IntKind.wrap .i64 (s4+1))
def Yy(a1:(List zj))(kx3:(Unit→Option Bool))(kb5:(Int→Option Bool))(s4:Int):Option Bool:=
 if s4 < (a1.length:Int) then((idx a1 s4).bind fun v7=>(YF v7.Key).bind fun v12=>(if v12=true then((Q7 v7.Value).bind fun v15=>(if v15=true then(if 0 < s4 then((idx a1<|IntKind.wrap .i64 (s4 - 1)).bind fun v19=>(yK kb5 s4) (decide (v7.Key≤v19.Key))) else((yK kb5 s4) false)) else((yK kb5 s4) true))) else((yK kb5 s4) true))) else(kx3 ())
def y0(a1:(List zj)):Option Bool:=
 iter (Yy a1<|Ys a1) FU 0
def KX(a1:Int):Option zw:=
 some (zw.mk a1<|IntKind.wrap .i64 (a1+1))
def ZA(a1:zC)(a2:Int)(a3:Int)(a4:zw):Option Bool:=
 if a1.Tx=a2 then(if a1.Mode=a3 then(if a1.Lo≤a4.Lo then(some<|decide (a4.Hi≤a1.Hi)) else(some false)) else(if a1.Mode=2 then(if a1.Lo≤a4.Lo then(some<|decide (a4.Hi≤a1.Hi)) else(some false)) else(some false))) else(some false)
def jS(t5:Unit):Option Int:=
 some (-1)
def jc(a1:(List zC))(a2:Int)(a3:Int)(a4:zw)(kx6:(Unit→Option Int))(kb8:(Int→Option Int))(s7:Int):Option Int:=
 if s7 < (a1.length:Int) then((idx a1 s7).bind fun v10=>(ZA v10 a2 a3 a4).bind fun v12=>(if v12=true then(some s7) else(kb8<|IntKind.wrap .i64 (s7+1)))) else(kx6 ())
def jk(a1:(List zC))(a2:Int)(a3:Int)(a4:zw):Option Int:=
 iter (jc a1 a2 a3 a4 jS) FU 0
def qp(a1:(List zC))(a2:Int)(a3:Int)(a4:zw):Option Bool:=
 (jk a1 a2 a3 a4).bind fun v5=>some (decide (0≤v5))
def Qv(a1:(List zC))(a2:Int)(a3:zw)(a4:Int):Option Bool:=
 (ZB a1).bind fun v5=>(if v5=true then((ZF a3).bind fun v8=>(if v8=true then((Jf a4).bind fun v11=>(if v11=true then((qp a1 a2 a4 a3).bind fun v14=>some v14) else(some false))) else(some false))) else(some false))
def Qe(a1:zj)(a2:zp)(a3:zL):Option Bool:=
 (KX a1.Key).bind fun v4=>(Qv a2.Locks a3.Tx v4 2).bind fun v6=>some (!v6)
def jX(t4:Unit):Option Int:=
 some (-1)
def jj(a1:(List zj))(a2:zp)(a3:zL)(kx5:(Unit→Option Int))(kb7:(Int→Option Int))(s6:Int):Option Int:=
 if s6 < (a1.length:Int) then((idx a1 s6).bind fun v9=>(Qe v9 a2 a3).bind fun v11=>(if v11=true then(some s6) else(kb7<|IntKind.wrap .i64 (s6+1)))) else(kx5 ())
def jo(a1:(List zj))(a2:zp)(a3:zL):Option Int:=
 iter (jj a1 a2 a3 jX) FU 0
def qu(a1:(List zj))(a2:zp)(a3:zL):Option Bool:=
 (jo a1 a2 a3).bind fun v4=>some (decide (0≤v4))
def XJ(t2:(List Int)):Option (List Int):=
 some t2
def XH(a1:(List zL))(kx3:((List Int)→Option (List Int)))(kb5:(((List Int)×Int)→Option (List Int)))(s4:((List Int)×Int)):Option (List Int):=
 if s4.2 < (a1.length:Int) then((idx a1 s4.2).bind fun v7=>(if (s4.1++([v7.Tx])).length≤2147483648 then(kb5 (s4.1++([v7.Tx]),IntKind.wrap .i64 (s4.2+1))) else none)) else(kx3 s4.1)
def QF(a1:(List zL)):Option (List Int):=
 iter (XH a1 XJ) FU (([]:List Int),0)
def kl(t2:Unit):Option Bool:=
 some true
def yY(kb5:(Int→Option Bool))(s4:Int)(t9:Bool):Option Bool:=
 if t9=true then(some false) else(kb5<|IntKind.wrap .i64 (s4+1))
def Ju(a1:(List Int))(kx3:(Unit→Option Bool))(kb5:(Int→Option Bool))(s4:Int):Option Bool:=
 if s4 < (a1.length:Int) then((idx a1 s4).bind fun v7=>(Yd v7).bind fun v12=>(if v12=true then(if 0 < s4 then((idx a1<|IntKind.wrap .i64 (s4 - 1)).bind fun v16=>(yY kb5 s4) (decide (v7≤v16))) else((yY kb5 s4) false)) else((yY kb5 s4) true))) else(kx3 ())
def yJ(a1:(List Int)):Option Bool:=
 iter (Ju a1 kl) FU 0
def xP(a1:zp)(t2:Unit):Option Bool:=
 (QF a1.Helds).bind fun v4=>(yJ v4).bind fun v6=>some v6
def Qs(kb9:(Int→Option Bool))(s8:Int)(t13:Bool):Option Bool:=
 if t13=true then(some false) else(kb9<|IntKind.wrap .i64 (s8+1))
def xN(a1:zp)(kx3:(Unit→Option Bool))(kb9:(Int→Option Bool))(s8:Int):Option Bool:=
 if s8 < (a1.Helds.length:Int) then((idx a1.Helds s8).bind fun v11=>(y0 v11.Writes).bind fun v16=>(if v16=true then((qu v11.Writes a1 v11).bind fun v19=>(Qs kb9 s8) v19) else((Qs kb9 s8) true))) else(kx3 ())
def JX(a1:zp):Option Bool:=
 iter (xN a1<|xP a1) FU 0
def xG(a2:zw)(t3:Int):Option Bool:=
 some (decide (a2.Hi≤t3))
def Qg(kb6:((Int×Int)→Option Bool))(v8:zw)(s5:(Int×Int))(t10:Bool):Option Bool:=
 if t10=true then(kb6 (v8.Hi,IntKind.wrap .i64 (s5.2+1))) else(kb6 (s5.1,IntKind.wrap .i64 (s5.2+1)))
def xx(a1:(List zw))(kx4:(Int→Option Bool))(kb6:((Int×Int)→Option Bool))(s5:(Int×Int)):Option Bool:=
 if s5.2 < (a1.length:Int) then((idx a1 s5.2).bind fun v8=>(if v8.Lo≤s5.1 then((Qg kb6 v8 s5)<|decide (s5.1 < v8.Hi)) else((Qg kb6 v8 s5) false))) else(kx4 s5.1)
def Zx(a1:(List zw))(a2:zw):Option Bool:=
 iter (xx a1<|xG a2) FU (a2.Lo,0)
def Qz(a1:zw)(a2:zp):Option Bool:=
 (Zx a2.Own a1).bind fun v3=>some (!v3)
def jY(t3:Unit):Option Int:=
 some (-1)
def jh(a1:(List zw))(a2:zp)(kx4:(Unit→Option Int))(kb6:(Int→Option Int))(s5:Int):Option Int:=
 if s5 < (a1.length:Int) then((idx a1 s5).bind fun v8=>(Qz v8 a2).bind fun v10=>(if v10=true then(some s5) else(kb6<|IntKind.wrap .i64 (s5+1)))) else(kx4 ())
def js(a1:(List zw))(a2:zp):Option Int:=
 iter (jh a1 a2 jY) FU 0
def qw(a1:(List zw))(a2:zp):Option Bool:=
 (js a1 a2).bind fun v3=>some (decide (0≤v3))
def Ql(a1:zj)(a2:zp):Option Bool:=
 (KX a1.Key).bind fun v3=>(Zx a2.Own v3).bind fun v5=>some (!v5)
def j8(t3:Unit):Option Int:=
 some (-1)
def jr(a1:(List zj))(a2:zp)(kx4:(Unit→Option Int))(kb6:(Int→Option Int))(s5:Int):Option Int:=
 if s5 < (a1.length:Int) then((idx a1 s5).bind fun v8=>(Ql v8 a2).bind fun v10=>(if v10=true then(some s5) else(kb6<|IntKind.wrap .i64 (s5+1)))) else(kx4 ())
def jy(a1:(List zj))(a2:zp):Option Int:=
 iter (jr a1 a2 j8) FU 0
def qC(a1:(List zj))(a2:zp):Option Bool:=
 (jy a1 a2).bind fun v3=>some (decide (0≤v3))
def kz(a1:List Int)(a2:Int):Option (List Int):=
 if 0≤a2∧a2≤1000000000 then some [] else none
def Z6(t6:(List Int)):Option (List Int):=
 some t6
def ZY(a1:(List<|List Int))(kx7:((List Int)→Option (List Int)))(kb9:(((List Int)×Int)→Option (List Int)))(s8:((List Int)×Int)):Option (List Int):=
 if s8.2 < (a1.length:Int) then((idx a1 s8.2).bind fun v11=>(if (s8.1++v11).length≤2147483648 then(kb9 (s8.1++v11,IntKind.wrap .i64 (s8.2+1))) else none)) else(kx7 s8.1)
def ZT(a1:(List<|List Int))(t2:Int):Option (List Int):=
 (kz ([]:(List Int)) t2).bind fun v4=>iter (ZY a1 Z6) FU (v4,0)
def ZJ(a1:(List<|List Int))(kx3:(Int→Option (List Int)))(kb15:((Int×Int)→Option (List Int)))(s14:(Int×Int)):Option (List Int):=
 if s14.2 < (a1.length:Int) then((idx a1 s14.2).bind fun v17=>(if (IntKind.wrap .i64 (s14.1+(v17.length:Int))) < 0 then none else(kb15 (IntKind.wrap .i64 (s14.1+(v17.length:Int)),IntKind.wrap .i64 (s14.2+1))))) else(kx3 s14.1)
def Zd(a1:(List<|List Int)):Option (List Int):=
 iter (ZJ a1<|ZT a1) FU (0,0)
def Y4(t3:Unit):Option Int:=
 some (-1)
def yy(a1:(List Int))(a2:Int)(kx4:(Unit→Option Int))(kb6:(Int→Option Int))(s5:Int):Option Int:=
 if s5 < (a1.length:Int) then((idx a1 s5).bind fun v8=>(if a2=v8 then(some s5) else(kb6<|IntKind.wrap .i64 (s5+1)))) else(kx4 ())
def yh(a1:(List Int))(a2:Int):Option Int:=
 iter (yy a1 a2 Y4) FU 0
def j5(a1:(List Int))(a2:Int):Option Bool:=
 (yh a1 a2).bind fun v3=>some (decide (0≤v3))
def Qt(a1:zC)(a2:zp)(a3:(List Int)):Option Bool:=
 (jl a1).bind fun v4=>(Zx a2.Own v4).bind fun v6=>(if v6=true then((j5 a3 a1.Tx).bind fun v9=>some v9) else(some true))
def j7(t4:Unit):Option Int:=
 some (-1)
def jp(a1:(List zC))(a2:zp)(a3:(List Int))(kx5:(Unit→Option Int))(kb7:(Int→Option Int))(s6:Int):Option Int:=
 if s6 < (a1.length:Int) then((idx a1 s6).bind fun v9=>(Qt v9 a2 a3).bind fun v11=>(if v11=true then(some s6) else(kb7<|IntKind.wrap .i64 (s6+1)))) else(kx5 ())
def jv(a1:(List zC))(a2:zp)(a3:(List Int)):Option Int:=
 iter (jp a1 a2 a3 j7) FU 0
def qD(a1:(List zC))(a2:zp)(a3:(List Int)):Option Bool:=
 (jv a1 a2 a3).bind fun v4=>some (decide (0≤v4))
def kO(a1:List Int):Option (List Int):=
 if a1.length≤1000000000 then some (zbT a1) else none
def yB(a1:(List Int))(t2:Unit):Option (List Int):=
 if a1.length≤2147483648 then(some a1) else none
def jP(a1:(List Int)):Option (List Int):=
 if a1.length=0 then((yB a1) ()) else((yB a1) ())
def Ym(a1:List Int):Option (List Int):=
 if a1.length≤1000000000 then some (Go.Lib.compact a1) else none
def Zq(a1:zj)(a2:Int):Option Int:=
 some (IntKind.wrap .i64 (a1.Key - a2))
def zU(a1:(List zj))(a2:Int)(t3:Int):Option (Int×Bool):=
 if t3 < (a1.length:Int) then((idx a1 t3).bind fun v6=>(Zq v6 a2).bind fun v8=>some (t3,decide (v8=0))) else(some (t3,false))
def z8(a1:(List zj))(a2:Int)(kx4:(Int→Option (Int×Bool)))(kb11:((Int×Int)→Option (Int×Bool)))(s10:(Int×Int)):Option (Int×Bool):=
 if s10.1 < s10.2 then((idx a1<|IntKind.wrap .i64<|Int.fdiv (IntKind.wrap .u64<|IntKind.wrap .i64 (s10.1+s10.2))<|2 ^ (min (Int.toNat 1)<|IntKind.bits .u64)).bind fun v13=>(Zq v13 a2).bind fun v15=>(if v15 < 0 then(kb11 (IntKind.wrap .i64 ((IntKind.wrap .i64<|Int.fdiv (IntKind.wrap .u64<|IntKind.wrap .i64 (s10.1+s10.2))<|2 ^ (min (Int.toNat 1)<|IntKind.bits .u64))+1),s10.2)) else(kb11 (s10.1,IntKind.wrap .i64<|Int.fdiv (IntKind.wrap .u64<|IntKind.wrap .i64 (s10.1+s10.2))<|2 ^ (min (Int.toNat 1)<|IntKind.bits .u64))))) else(kx4 s10.1)
def qz(a1:(List zj))(a2:Int):Option (Int×Bool):=
 iter (z8 a1 a2<|zU a1 a2) FU (0,(a1.length:Int))
def Qy(a1:(List zj))(a2:Int):Option (Int×Bool):=
 (qz a1 a2).bind fun v3=>some (v3.1,v3.2)
def J8(a1:(List zj))(a2:Int):Option Int:=
 (Qy a1 a2).bind fun v3=>(if v3.2=true then((idx a1 v3.1).bind fun v6=>some v6.Value) else(some (-1)))
def YN(t6:Int):Option Int:=
 some t6
def ZR(kb9:((Int×Int)→Option Int))(s8:(Int×Int))(t13:Bool):Option Int:=
 if t13=true then(kb9 (IntKind.wrap .i64 (s8.1+1),IntKind.wrap .i64 (s8.2+1))) else(kb9 (s8.1,IntKind.wrap .i64 (s8.2+1)))
def YC(a2:(List zj))(a1:(List zj))(kx7:(Int→Option Int))(kb9:((Int×Int)→Option Int))(s8:(Int×Int)):Option Int:=
 if s8.2 < (a2.length:Int) then((idx a2 s8.2).bind fun v11=>(if ¬v11.Value=(-1) then((J8 a1 v11.Key).bind fun v17=>(ZR kb9 s8) (decide (v17 < 0))) else((ZR kb9 s8) false))) else(kx7 s8.1)
def Qi(a2:(List zj))(a1:(List zj))(t3:Bool):Option Int:=
 if t3=true then(some (-1)) else(iter (YC a2 a1 YN) FU (0,0))
def Q5(a1:(List zj))(a2:(List zj)):Option Int:=
 (Zz a1).bind fun v19=>(if v19=true then((y0 a2).bind fun v22=>(Qi a2 a1) (!v22)) else((Qi a2 a1) true))
def Km(t2:Int):Option Int:=
 some t2
def Kp(a1:zp)(kx3:(Int→Option Int))(kb5:((Int×Int)→Option Int))(s4:(Int×Int)):Option Int:=
 if s4.2 < (a1.Helds.length:Int) then((idx a1.Helds s4.2).bind fun v7=>(Q5 a1.Cells v7.Writes).bind fun v9=>kb5 (IntKind.wrap .i64 (s4.1+v9),IntKind.wrap .i64 (s4.2+1))) else(kx3 s4.1)
def XL(a1:zp):Option Int:=
 iter (Kp a1 Km) FU ((a1.Cells.length:Int),0)
def y9(a1:zp)(t5:Bool):Option Bool:=
 if t5=true then(some false) else((Zd<|[a1.Wounded,a1.Ended]).bind fun v8=>(qD a1.Locks a1 v8).bind fun v10=>(if v10=true then(some false) else((QF a1.Helds).bind fun v13=>(if (v13++v8).length≤2147483648 then((kO (v13++v8)).bind fun v16=>(if v16.length=(v13++v8).length then((jP v16).bind fun v19=>(Ym v19).bind fun v21=>(if (v21.length:Int)=(((v13++v8).length:Nat):Int) then((XL a1).bind fun v24=>some (decide (v24≤60))) else(some false))) else none)) else none))))
def qN(a1:zp)(t2:Bool):Option Bool:=
 if t2=true then(some false) else((qw a1.Frozen a1).bind fun v26=>(if v26=true then((y9 a1) true) else((qC a1.Cells a1).bind fun v29=>(y9 a1) v29)))
def Qf(a1:zp):Option Bool:=
 (Yb a1.Me).bind fun v31=>(if v31=true then((ZN a1.Own).bind fun v34=>(if v34=true then((ZN a1.Frozen).bind fun v37=>(if v37=true then((Zz a1.Cells).bind fun v40=>(if v40=true then((ZB a1.Locks).bind fun v43=>(if v43=true then((JX a1).bind fun v46=>(if v46=true then((yJ a1.Wounded).bind fun v49=>(if v49=true then((yJ a1.Ended).bind fun v52=>(if v52=true then((Zf a1.Rank 0 1000000).bind fun v55=>(qN a1) (!v55)) else((qN a1) true))) else((qN a1) true))) else((qN a1) true))) else((qN a1) true))) else((qN a1) true))) else((qN a1) true))) else((qN a1) true))) else((qN a1) true))
def j4(a1:(List zw))(t2:Unit):Option (List zw):=
 if a1.length≤2147483648 then(some a1) else none
def yj(a1:(List zw)):Option (List zw):=
 if a1.length=0 then((j4 a1) ()) else((j4 a1) ())
def yk(a1:(List zj))(t2:Unit):Option (List zj):=
 if a1.length≤2147483648 then(some a1) else none
def qR(a1:(List zj)):Option (List zj):=
 if a1.length=0 then((yk a1) ()) else((yk a1) ())
def yo(a1:(List zC))(t2:Unit):Option (List zC):=
 if a1.length≤2147483648 then(some a1) else none
def yw(a1:(List zC)):Option (List zC):=
 if a1.length=0 then((yo a1) ()) else((yo a1) ())
def j6(a1:(List zj))(t2:Unit):Option (List zj):=
 if a1.length≤2147483648 then(some a1) else none
def yR(a1:(List zj)):Option (List zj):=
 if a1.length=0 then((j6 a1) ()) else((j6 a1) ())
def QH(a1:zp)(v2:(List zw))(v4:(List zw))(v6:(List zj))(v8:(List zC))(v10:(List Int))(v12:(List Int))(t14:(List zL)):Option zp:=
 some (zp.mk a1.Me v2 v4 v6 v8 t14 v10 v12 a1.Rank)
def QR(a1:zp)(kx15:((List zL)→Option zp))(kb17:((Int×(List zL))→Option zp))(s16:(Int×(List zL))):Option zp:=
 if s16.1 < (a1.Helds.length:Int) then((idx a1.Helds s16.1).bind fun v19=>(yR v19.Writes).bind fun v21=>(if (s16.2++[zL.mk v19.Tx v21]).length≤2147483648 then(kb17 (IntKind.wrap .i64 (s16.1+1),s16.2++[zL.mk v19.Tx v21])) else none)) else(kx15 s16.2)
def Qu(a1:zp):Option zp:=
 (yj a1.Own).bind fun v2=>(yj a1.Frozen).bind fun v4=>(qR a1.Cells).bind fun v6=>(yw a1.Locks).bind fun v8=>(jP a1.Wounded).bind fun v10=>(jP a1.Ended).bind fun v12=>iter (QR a1<|QH a1 v2 v4 v6 v8 v10 v12) FU (0,([]:List zL))
def JM(a1:List zj)(a2 a3:Int):Option (List zj):=
 if 0≤a2∧a2 < a3∧a3≤(a1.length:Int)∧a1.length≤1000000000 then some (List.take (Int.toNat a2) a1++List.drop (Int.toNat a3) a1) else none
def ZZ(a1:List zj)(a2:Int)(a3:List zj):Option (List zj):=
 if 0≤a2∧a2≤(a1.length:Int)∧a3.length=1∧a1.length≤1000000000 then some (List.take (Int.toNat a2) a1++(a3++List.drop (Int.toNat a2) a1)) else none
def XM(a1:(List zj))(v4:(Int×Bool))(a3:Int)(a2:Int)(t6:Bool):Option (List zj):=
 if t6=true then((qR a1).bind fun v9=>(JM v9 v4.1<|IntKind.wrap .i64 (v4.1+1)).bind fun v11=>some v11) else(if a3=(-1) then((qR a1).bind fun v14=>some v14) else(if v4.2=true then((qR a1).bind fun v17=>(idx v17 v4.1).bind fun v19=>some (v17.set (Int.toNat v4.1)<|zj.mk v19.Key a3)) else((qR a1).bind fun v21=>(ZZ v21 v4.1<|[zj.mk a2 a3]).bind fun v23=>some v23)))
def KF(a1:(List zj))(a2:Int)(a3:Int):Option (List zj):=
 (Qy a1 a2).bind fun v4=>(if a3=(-1) then((XM a1 v4 a3 a2) v4.2) else((XM a1 v4 a3 a2) false))
def xL(t3:(List zj)):Option (List zj):=
 some t3
def xr(a2:(List zj))(kx4:((List zj)→Option (List zj)))(kb6:(((List zj)×Int)→Option (List zj)))(s5:((List zj)×Int)):Option (List zj):=
 if s5.2 < (a2.length:Int) then((idx a2 s5.2).bind fun v8=>(KF s5.1 v8.Key v8.Value).bind fun v10=>kb6 (v10,IntKind.wrap .i64 (s5.2+1))) else(kx4 s5.1)
def JG(a1:(List zj))(a2:(List zj)):Option (List zj):=
 iter (xr a2 xL) FU (a1,0)
def ZH(a1:(List zj))(a2:(List zj))(t3:Bool):Option ((List zj)×Bool):=
 if t3=true then(some (([]:(List zj)),false)) else((qR a1).bind fun v6=>(JG v6 a2).bind fun v8=>(if 60 < ((v8.length:Nat):Int) then(some (([]:(List zj)),false)) else(some (v8,true))))
def Z2(a1:(List zj))(a2:(List zj)):Option ((List zj)×Bool):=
 (Zz a1).bind fun v11=>(if v11=true then((y0 a2).bind fun v14=>(ZH a1 a2) (!v14)) else((ZH a1 a2) true))
def ZQ(a1:List zL)(a2 a3:Int):Option (List zL):=
 if 0≤a2∧a2 < a3∧a3≤(a1.length:Int)∧a1.length≤1000000000 then some (List.take (Int.toNat a2) a1++List.drop (Int.toNat a3) a1) else none
def ye(a1:zC)(a2:Int):Option Bool:=
 some (decide (a1.Tx=a2))
def jT(t3:Unit):Option Int:=
 some (-1)
def je(a1:(List zC))(a2:Int)(kx4:(Unit→Option Int))(kb6:(Int→Option Int))(s5:Int):Option Int:=
 if s5 < (a1.length:Int) then((idx a1 s5).bind fun v8=>(ye v8 a2).bind fun v10=>(if v10=true then(some s5) else(kb6<|IntKind.wrap .i64 (s5+1)))) else(kx4 ())
def qH(a1:(List zC))(a2:Int):Option Int:=
 iter (je a1 a2 jT) FU 0
def qt(t6:((List zC)×Int)):Option (List zC):=
 if (0:Int)≤t6.2∧t6.2≤((t6.1.length:Nat):Int)∧((t6.1.length:Nat):Int)≤((t6.1.length:Nat):Int) then(if (Int.toNat t6.2)+(Int.toNat ((t6.1.length:Nat):Int) - Int.toNat t6.2)≤t6.1.length then(if (0:Int)≤0∧0≤t6.2∧t6.2≤((t6.1.length:Nat):Int) then(some<|List.take (Int.toNat t6.2) (List.take (Int.toNat t6.2) t6.1++List.replicate (Int.toNat ((t6.1.length:Nat):Int) - Int.toNat t6.2) (zC.mk 0 0 0 0)++List.drop ((Int.toNat t6.2)+(Int.toNat ((t6.1.length:Nat):Int) - Int.toNat t6.2)) t6.1)) else none) else none) else none
def qo(a2:Int)(kx7:(((List zC)×Int)→Option (List zC)))(kb12:(((List zC)×Int×Int)→Option (List zC)))(s11:((List zC)×Int×Int)):Option (List zC):=
 if s11.2.2 < ((s11.1.length:Nat):Int) then((idx s11.1 s11.2.2).bind fun v14=>(ye v14 a2).bind fun v16=>(if v16=true then(kb12 (s11.1,s11.2.1,IntKind.wrap .i64 (s11.2.2+1))) else((idx s11.1 s11.2.1).bind fun v19=>kb12 (s11.1.set (Int.toNat s11.2.1) v14,IntKind.wrap .i64 (s11.2.1+1),IntKind.wrap .i64 (s11.2.2+1))))) else(kx7 (s11.1,s11.2.1))
def qB(a1:(List zC))(a2:Int):Option (List zC):=
 (qH a1 a2).bind fun v3=>(if v3=(-1) then(some a1) else(iter (qo a2 qt) FU (a1,v3,IntKind.wrap .i64 (v3+1))))
def Qn(a1:(List zC))(a2:Int):Option (List zC):=
 (ZB a1).bind fun v3=>(if v3=true then((yw a1).bind fun v6=>(qB v6 a2).bind fun v8=>some v8) else(some ([]:(List zC))))
def jN(a1:Int)(a2:Int):Option Bool:=
 some (decide (a1=a2))
def jO(t3:Unit):Option Int:=
 some (-1)
def qX(a1:(List Int))(a2:Int)(kx4:(Unit→Option Int))(kb6:(Int→Option Int))(s5:Int):Option Int:=
 if s5 < (a1.length:Int) then((idx a1 s5).bind fun v8=>(jN v8 a2).bind fun v10=>(if v10=true then(some s5) else(kb6<|IntKind.wrap .i64 (s5+1)))) else(kx4 ())
def qA(a1:(List Int))(a2:Int):Option Int:=
 iter (qX a1 a2 jO) FU 0
def qq(t6:((List Int)×Int)):Option (List Int):=
 if (0:Int)≤t6.2∧t6.2≤((t6.1.length:Nat):Int)∧((t6.1.length:Nat):Int)≤((t6.1.length:Nat):Int) then(if (Int.toNat t6.2)+(Int.toNat ((t6.1.length:Nat):Int) - Int.toNat t6.2)≤t6.1.length then(if (0:Int)≤0∧0≤t6.2∧t6.2≤((t6.1.length:Nat):Int) then(some<|List.take (Int.toNat t6.2) (List.take (Int.toNat t6.2) t6.1++List.replicate (Int.toNat ((t6.1.length:Nat):Int) - Int.toNat t6.2) 0++List.drop ((Int.toNat t6.2)+(Int.toNat ((t6.1.length:Nat):Int) - Int.toNat t6.2)) t6.1)) else none) else none) else none
def qm(a2:Int)(kx7:(((List Int)×Int)→Option (List Int)))(kb12:(((List Int)×Int×Int)→Option (List Int)))(s11:((List Int)×Int×Int)):Option (List Int):=
 if s11.2.2 < ((s11.1.length:Nat):Int) then((idx s11.1 s11.2.2).bind fun v14=>(jN v14 a2).bind fun v16=>(if v16=true then(kb12 (s11.1,s11.2.1,IntKind.wrap .i64 (s11.2.2+1))) else((idx s11.1 s11.2.1).bind fun v19=>kb12 (s11.1.set (Int.toNat s11.2.1) v14,IntKind.wrap .i64 (s11.2.1+1),IntKind.wrap .i64 (s11.2.2+1))))) else(kx7 (s11.1,s11.2.1))
def qx(a1:(List Int))(a2:Int):Option (List Int):=
 (qA a1 a2).bind fun v3=>(if v3=(-1) then(some a1) else(iter (qm a2 qq) FU (a1,v3,IntKind.wrap .i64 (v3+1))))
def Q4(a1:Int):Option Bool:=
 some (decide (¬a1=a1))
def J4(a1:Int)(a2:Int):Option Bool:=
 (Q4 a1).bind fun v3=>(if v3=true then((Q4 a2).bind fun v6=>(if v6=true then(some<|decide (a1 < a2)) else(some true))) else(some<|decide (a1 < a2)))
def ZD(a1:Int):Option Bool:=
 some (decide (¬a1=a1))
def qO(a1:(List Int))(a2:Int)(t3:Int):Option (Int×Bool):=
 if t3 < (a1.length:Int) then((idx a1 t3).bind fun v6=>(if v6=a2 then(some (t3,true)) else((idx a1 t3).bind fun v9=>(ZD v9).bind fun v11=>(if v11=true then((ZD a2).bind fun v14=>some (t3,v14)) else(some (t3,false)))))) else(some (t3,false))
def jH(a1:(List Int))(a2:Int)(kx4:(Int→Option (Int×Bool)))(kb17:((Int×Int)→Option (Int×Bool)))(s16:(Int×Int)):Option (Int×Bool):=
 if s16.1 < s16.2 then((idx a1<|IntKind.wrap .i64<|Int.fdiv (IntKind.wrap .u64<|IntKind.wrap .i64 (s16.1+s16.2))<|2 ^ (min (Int.toNat 1)<|IntKind.bits .u64)).bind fun v19=>(J4 v19 a2).bind fun v21=>(if v21=true then(kb17 (IntKind.wrap .i64 ((IntKind.wrap .i64<|Int.fdiv (IntKind.wrap .u64<|IntKind.wrap .i64 (s16.1+s16.2))<|2 ^ (min (Int.toNat 1)<|IntKind.bits .u64))+1),s16.2)) else(kb17 (s16.1,IntKind.wrap .i64<|Int.fdiv (IntKind.wrap .u64<|IntKind.wrap .i64 (s16.1+s16.2))<|2 ^ (min (Int.toNat 1)<|IntKind.bits .u64))))) else(kx4 s16.1)
def jV(a1:(List Int))(a2:Int):Option (Int×Bool):=
 iter (jH a1 a2<|qO a1 a2) FU (0,(a1.length:Int))
def Y3(a1:List Int)(a2:Int)(a3:List Int):Option (List Int):=
 if 0≤a2∧a2≤(a1.length:Int)∧a3.length=1∧a1.length≤1000000000 then some (List.take (Int.toNat a2) a1++(a3++List.drop (Int.toNat a2) a1)) else none
def Q6(a1:(List Int))(a2:Int):Option (List Int):=
 (jV a1 a2).bind fun v3=>(if v3.2=true then(some a1) else((jP a1).bind fun v6=>(Y3 v6 v3.1<|[a2]).bind fun v8=>some v8))
def jt(v7:zp)(a2:Int)(t12:((List zj)×(List zL))):Option (zp×Int):=
 (Qn v7.Locks a2).bind fun v14=>(qx v7.Wounded a2).bind fun v16=>(Q6 v7.Ended a2).bind fun v18=>some (zp.mk v7.Me v7.Own v7.Frozen t12.1 v14 t12.2 v16 v18 v7.Rank,0)
def yl(v7:zp)(v22:Int)(kx13:(((List zj)×(List zL))→Option (zp×Int)))(t25:(List zj)):Option (zp×Int):=
 (ZQ v7.Helds v22<|IntKind.wrap .i64 (v22+1)).bind fun v27=>kx13 (t25,v27)
def yx(a1:zp)(a2:Int)(a3:Bool)(t4:Bool):Option (zp×Int):=
 if t4=true then(some (zp.mk 0 ([]:(List zw)) ([]:(List zw)) ([]:(List zj)) ([]:(List zC)) ([]:(List zL)) ([]:(List Int)) ([]:(List Int)) 0,1)) else((Qu a1).bind fun v7=>(j5 a1.Ended a2).bind fun v9=>(if v9=true then(some (v7,2)) else((QF v7.Helds).bind fun v20=>(yh v20 a2).bind fun v22=>(if 0≤v22 then(if a3=true then((idx v7.Helds v22).bind fun v30=>(Z2 v7.Cells v30.Writes).bind fun v32=>(yl v7 v22<|jt v7 a2) v32.1) else((yl v7 v22<|jt v7 a2) v7.Cells)) else((jt v7 a2) (v7.Cells,v7.Helds))))))
def yH(a1:zp)(a2:Int)(a3:Bool):Option (zp×Int):=
 (Qf a1).bind fun v34=>(if v34=true then((Yd a2).bind fun v37=>(yx a1 a2 a3) (!v37)) else((yx a1 a2 a3) true))
def Yc(a1:zw)(a2:zw):Option Bool:=
 if ¬a1.Lo=a2.Lo then(some false) else(if ¬a1.Hi=a2.Hi then(some false) else(some true))
def Xk(t4:Unit):Option Bool:=
 some true
def YH(a1:(List zw))(a2:(List zw))(kx5:(Unit→Option Bool))(kb7:(Int→Option Bool))(s6:Int):Option Bool:=
 if s6 < (a1.length:Int) then((idx a1 s6).bind fun v9=>(idx a2 s6).bind fun v11=>(Yc v9 v11).bind fun v13=>(if v13=true then(kb7<|IntKind.wrap .i64 (s6+1)) else(some false))) else(kx5 ())
def ZO(a1:(List zw))(a2:(List zw)):Option Bool:=
 if ¬(a1.length:Int)=(a2.length:Int) then(some false) else(iter (YH a1 a2 Xk) FU 0)
def xg(a1:zj)(a2:zj):Option Bool:=
 if ¬a1.Key=a2.Key then(some false) else(if ¬a1.Value=a2.Value then(some false) else(some true))
def X9(t4:Unit):Option Bool:=
 some true
def xV(a1:(List zj))(a2:(List zj))(kx5:(Unit→Option Bool))(kb7:(Int→Option Bool))(s6:Int):Option Bool:=
 if s6 < (a1.length:Int) then((idx a1 s6).bind fun v9=>(idx a2 s6).bind fun v11=>(xg v9 v11).bind fun v13=>(if v13=true then(kb7<|IntKind.wrap .i64 (s6+1)) else(some false))) else(kx5 ())
def JT(a1:(List zj))(a2:(List zj)):Option Bool:=
 if ¬(a1.length:Int)=(a2.length:Int) then(some false) else(iter (xV a1 a2 X9) FU 0)
def xf(a1:zC)(a2:zC):Option Bool:=
 if ¬a1.Tx=a2.Tx then(some false) else(if ¬a1.Lo=a2.Lo then(some false) else(if ¬a1.Hi=a2.Hi then(some false) else(if ¬a1.Mode=a2.Mode then(some false) else(some true))))
def Kc(t4:Unit):Option Bool:=
 some true
def xU(a1:(List zC))(a2:(List zC))(kx5:(Unit→Option Bool))(kb7:(Int→Option Bool))(s6:Int):Option Bool:=
 if s6 < (a1.length:Int) then((idx a1 s6).bind fun v9=>(idx a2 s6).bind fun v11=>(xf v9 v11).bind fun v13=>(if v13=true then(kb7<|IntKind.wrap .i64 (s6+1)) else(some false))) else(kx5 ())
def Yk(a1:(List zC))(a2:(List zC)):Option Bool:=
 if ¬(a1.length:Int)=(a2.length:Int) then(some false) else(iter (xU a1 a2 Kc) FU 0)
def JK(a1:zj)(a2:zj):Option Bool:=
 if ¬a1.Key=a2.Key then(some false) else(if ¬a1.Value=a2.Value then(some false) else(some true))
def Xn(t4:Unit):Option Bool:=
 some true
def YR(a1:(List zj))(a2:(List zj))(kx5:(Unit→Option Bool))(kb7:(Int→Option Bool))(s6:Int):Option Bool:=
 if s6 < (a1.length:Int) then((idx a1 s6).bind fun v9=>(idx a2 s6).bind fun v11=>(JK v9 v11).bind fun v13=>(if v13=true then(kb7<|IntKind.wrap .i64 (s6+1)) else(some false))) else(kx5 ())
def Q8(a1:(List zj))(a2:(List zj)):Option Bool:=
 if ¬(a1.length:Int)=(a2.length:Int) then(some false) else(iter (YR a1 a2 Xn) FU 0)
def xj(a1:zL)(a2:zL):Option Bool:=
 if ¬a1.Tx=a2.Tx then(some false) else((Q8 a1.Writes a2.Writes).bind fun v4=>(if v4=true then(some true) else(some false)))
def Kb(t4:Unit):Option Bool:=
 some true
def xJ(a1:(List zL))(a2:(List zL))(kx5:(Unit→Option Bool))(kb7:(Int→Option Bool))(s6:Int):Option Bool:=
 if s6 < (a1.length:Int) then((idx a1 s6).bind fun v9=>(idx a2 s6).bind fun v11=>(xj v9 v11).bind fun v13=>(if v13=true then(kb7<|IntKind.wrap .i64 (s6+1)) else(some false))) else(kx5 ())
def JS(a1:(List zL))(a2:(List zL)):Option Bool:=
 if ¬(a1.length:Int)=(a2.length:Int) then(some false) else(iter (xJ a1 a2 Kb) FU 0)
def Ky(t4:Unit):Option Bool:=
 some true
def kF(a1:(List Int))(a2:(List Int))(kx5:(Unit→Option Bool))(kb7:(Int→Option Bool))(s6:Int):Option Bool:=
 if s6 < (a1.length:Int) then((idx a1 s6).bind fun v9=>(idx a2 s6).bind fun v11=>(if ¬v9=v11 then(some false) else(kb7<|IntKind.wrap .i64 (s6+1)))) else(kx5 ())
def Jj(a1:(List Int))(a2:(List Int)):Option Bool:=
 if ¬(a1.length:Int)=(a2.length:Int) then(some false) else(iter (kF a1 a2 Ky) FU 0)
def yN(a1:zp)(a2:zp):Option Bool:=
 if ¬a1.Me=a2.Me then(some false) else((ZO a1.Own a2.Own).bind fun v4=>(if v4=true then((ZO a1.Frozen a2.Frozen).bind fun v7=>(if v7=true then((JT a1.Cells a2.Cells).bind fun v10=>(if v10=true then((Yk a1.Locks a2.Locks).bind fun v13=>(if v13=true then((JS a1.Helds a2.Helds).bind fun v16=>(if v16=true then((Jj a1.Wounded a2.Wounded).bind fun v19=>(if v19=true then((Jj a1.Ended a2.Ended).bind fun v22=>(if v22=true then(if ¬a1.Rank=a2.Rank then(some false) else(some true)) else(some false))) else(some false))) else(some false))) else(some false))) else(some false))) else(some false))) else(some false)))
def QO(a1:(List zw))(t3:((List zw)×Int)):Option (Int×(List zw)):=
 if t3.1.length=a1.length then(some (t3.2,t3.1)) else none
def QG(kx4:(((List zw)×Int)→Option (Int×(List zw))))(kb7:(((List zw)×Int×Int)→Option (Int×(List zw))))(s6:((List zw)×Int×Int)):Option (Int×(List zw)):=
 if s6.2.2 < ((s6.1.length:Nat):Int) then((idx s6.1 s6.2.2).bind fun v9=>(idx (s6.1.set (Int.toNat s6.2.2)<|zw.mk s6.2.1 v9.Hi) s6.2.2).bind fun v11=>kb7 ((s6.1.set (Int.toNat s6.2.2)<|zw.mk s6.2.1 v9.Hi).set (Int.toNat s6.2.2)<|zw.mk v11.Lo<|IntKind.wrap .i64 (s6.2.1+1),IntKind.wrap .i64 ((IntKind.wrap .i64 (s6.2.1+1))+1),IntKind.wrap .i64 (s6.2.2+1))) else(kx4 (s6.1,s6.2.1))
def jZ(a1:(List zw))(a2:Int):Option (Int×(List zw)):=
 iter (QG<|QO a1) FU (a1,a2,0)
def Jr(a1:(List zj))(t3:((List zj)×Int)):Option (Int×(List zj)):=
 if t3.1.length=a1.length then(some (t3.2,t3.1)) else none
def Js(kx4:(((List zj)×Int)→Option (Int×(List zj))))(kb7:(((List zj)×Int×Int)→Option (Int×(List zj))))(s6:((List zj)×Int×Int)):Option (Int×(List zj)):=
 if s6.2.2 < ((s6.1.length:Nat):Int) then((idx s6.1 s6.2.2).bind fun v9=>(idx (s6.1.set (Int.toNat s6.2.2)<|zj.mk s6.2.1 v9.Value) s6.2.2).bind fun v11=>kb7 ((s6.1.set (Int.toNat s6.2.2)<|zj.mk s6.2.1 v9.Value).set (Int.toNat s6.2.2)<|zj.mk v11.Key<|IntKind.wrap .i64 (s6.2.1+1),IntKind.wrap .i64 ((IntKind.wrap .i64 (s6.2.1+1))+1),IntKind.wrap .i64 (s6.2.2+1))) else(kx4 (s6.1,s6.2.1))
def Zi(a1:(List zj))(a2:Int):Option (Int×(List zj)):=
 iter (Js<|Jr a1) FU (a1,a2,0)
def Jm(a1:(List zC))(t3:((List zC)×Int)):Option (Int×(List zC)):=
 if t3.1.length=a1.length then(some (t3.2,t3.1)) else none
def Jx(kx4:(((List zC)×Int)→Option (Int×(List zC))))(kb7:(((List zC)×Int×Int)→Option (Int×(List zC))))(s6:((List zC)×Int×Int)):Option (Int×(List zC)):=
 if s6.2.2 < ((s6.1.length:Nat):Int) then((idx s6.1 s6.2.2).bind fun v9=>(idx (s6.1.set (Int.toNat s6.2.2)<|zC.mk s6.2.1 v9.Lo v9.Hi v9.Mode) s6.2.2).bind fun v11=>(idx ((s6.1.set (Int.toNat s6.2.2)<|zC.mk s6.2.1 v9.Lo v9.Hi v9.Mode).set (Int.toNat s6.2.2)<|zC.mk v11.Tx (IntKind.wrap .i64 (s6.2.1+1)) v11.Hi v11.Mode) s6.2.2).bind fun v13=>(idx (((s6.1.set (Int.toNat s6.2.2)<|zC.mk s6.2.1 v9.Lo v9.Hi v9.Mode).set (Int.toNat s6.2.2)<|zC.mk v11.Tx (IntKind.wrap .i64 (s6.2.1+1)) v11.Hi v11.Mode).set (Int.toNat s6.2.2)<|zC.mk v13.Tx v13.Lo (IntKind.wrap .i64 ((IntKind.wrap .i64 (s6.2.1+1))+1)) v13.Mode) s6.2.2).bind fun v15=>kb7 ((((s6.1.set (Int.toNat s6.2.2)<|zC.mk s6.2.1 v9.Lo v9.Hi v9.Mode).set (Int.toNat s6.2.2)<|zC.mk v11.Tx (IntKind.wrap .i64 (s6.2.1+1)) v11.Hi v11.Mode).set (Int.toNat s6.2.2)<|zC.mk v13.Tx v13.Lo (IntKind.wrap .i64 ((IntKind.wrap .i64 (s6.2.1+1))+1)) v13.Mode).set (Int.toNat s6.2.2)<|zC.mk v15.Tx v15.Lo v15.Hi<|IntKind.wrap .i64 ((IntKind.wrap .i64 ((IntKind.wrap .i64 (s6.2.1+1))+1))+1),IntKind.wrap .i64 ((IntKind.wrap .i64 ((IntKind.wrap .i64 ((IntKind.wrap .i64 (s6.2.1+1))+1))+1))+1),IntKind.wrap .i64 (s6.2.2+1))) else(kx4 (s6.1,s6.2.1))
def Zm(a1:(List zC))(a2:Int):Option (Int×(List zC)):=
 iter (Jx<|Jm a1) FU (a1,a2,0)
def QM(a1:(List zj))(t3:((List zj)×Int)):Option (Int×(List zj)):=
 if t3.1.length=a1.length then(some (t3.2,t3.1)) else none
def QU(kx4:(((List zj)×Int)→Option (Int×(List zj))))(kb7:(((List zj)×Int×Int)→Option (Int×(List zj))))(s6:((List zj)×Int×Int)):Option (Int×(List zj)):=
 if s6.2.2 < ((s6.1.length:Nat):Int) then((idx s6.1 s6.2.2).bind fun v9=>(idx (s6.1.set (Int.toNat s6.2.2)<|zj.mk s6.2.1 v9.Value) s6.2.2).bind fun v11=>kb7 ((s6.1.set (Int.toNat s6.2.2)<|zj.mk s6.2.1 v9.Value).set (Int.toNat s6.2.2)<|zj.mk v11.Key<|IntKind.wrap .i64 (s6.2.1+1),IntKind.wrap .i64 ((IntKind.wrap .i64 (s6.2.1+1))+1),IntKind.wrap .i64 (s6.2.2+1))) else(kx4 (s6.1,s6.2.1))
def Z7(a1:(List zj))(a2:Int):Option (Int×(List zj)):=
 iter (QU<|QM a1) FU (a1,a2,0)
def Jz(a1:(List zL))(t3:((List zL)×Int)):Option (Int×(List zL)):=
 if t3.1.length=a1.length then(some (t3.2,t3.1)) else none
def Jo(kx4:(((List zL)×Int)→Option (Int×(List zL))))(kb7:(((List zL)×Int×Int)→Option (Int×(List zL))))(s6:((List zL)×Int×Int)):Option (Int×(List zL)):=
 if s6.2.2 < ((s6.1.length:Nat):Int) then((idx s6.1 s6.2.2).bind fun v9=>(idx (s6.1.set (Int.toNat s6.2.2)<|zL.mk s6.2.1 v9.Writes) s6.2.2).bind fun v11=>(Z7 v11.Writes<|IntKind.wrap .i64 (s6.2.1+1)).bind fun v13=>kb7 ((s6.1.set (Int.toNat s6.2.2)<|zL.mk s6.2.1 v9.Writes).set (Int.toNat s6.2.2)<|zL.mk v11.Tx v13.2,v13.1,IntKind.wrap .i64 (s6.2.2+1))) else(kx4 (s6.1,s6.2.1))
def Zs(a1:(List zL))(a2:Int):Option (Int×(List zL)):=
 iter (Jo<|Jz a1) FU (a1,a2,0)
def YY(a1:(List Int))(t3:((List Int)×Int)):Option (Int×(List Int)):=
 if t3.1.length=a1.length then(some (t3.2,t3.1)) else none
def YL(kx4:(((List Int)×Int)→Option (Int×(List Int))))(kb7:(((List Int)×Int×Int)→Option (Int×(List Int))))(s6:((List Int)×Int×Int)):Option (Int×(List Int)):=
 if s6.2.2 < ((s6.1.length:Nat):Int) then((idx s6.1 s6.2.2).bind fun v9=>kb7 (s6.1.set (Int.toNat s6.2.2) s6.2.1,IntKind.wrap .i64 (s6.2.1+1),IntKind.wrap .i64 (s6.2.2+1))) else(kx4 (s6.1,s6.2.1))
def yF(a1:(List Int))(a2:Int):Option (Int×(List Int)):=
 iter (YL<|YY a1) FU (a1,a2,0)
def Zt(a1:zp)(a2:Int):Option (Int×zp):=
 (jZ a1.Own a2).bind fun v3=>(if v3.2.length=a1.Own.length then((jZ a1.Frozen v3.1).bind fun v6=>(if v6.2.length=a1.Frozen.length then((Zi a1.Cells v6.1).bind fun v9=>(if v9.2.length=a1.Cells.length then((Zm a1.Locks v9.1).bind fun v12=>(if v12.2.length=a1.Locks.length then((Zs a1.Helds v12.1).bind fun v15=>(if v15.2.length=a1.Helds.length then((yF a1.Wounded v15.1).bind fun v18=>(if v18.2.length=a1.Wounded.length then((yF a1.Ended v18.1).bind fun v21=>(if v21.2.length=a1.Ended.length then(if v3.2.length=a1.Own.length then(if v6.2.length=a1.Frozen.length then(if v9.2.length=a1.Cells.length then(if v12.2.length=a1.Locks.length then(if v15.2.length=a1.Helds.length then(if v18.2.length=a1.Wounded.length then(if v21.2.length=a1.Ended.length then(some (v21.1,zp.mk a1.Me v3.2 v6.2 v9.2 v12.2 v15.2 v18.2 v21.2 a1.Rank)) else none) else none) else none) else none) else none) else none) else none) else none)) else none)) else none)) else none)) else none)) else none)) else none)
def QN(t3:Int):Option Int:=
 some t3
def QI(a1:(List zw))(kx4:(Int→Option Int))(kb6:((Int×Int)→Option Int))(s5:(Int×Int)):Option Int:=
 if s5.2 < (a1.length:Int) then((idx a1 s5.2).bind fun v8=>(if ¬v8.Lo=s5.1 then(some (-1)) else((idx a1 s5.2).bind fun v11=>(if ¬v11.Hi=(IntKind.wrap .i64 (s5.1+1)) then(some (-1)) else(kb6 (IntKind.wrap .i64 ((IntKind.wrap .i64 (s5.1+1))+1),IntKind.wrap .i64 (s5.2+1))))))) else(kx4 s5.1)
def j0(a1:(List zw))(a2:Int):Option Int:=
 iter (QI a1 QN) FU (a2,0)
def Jv(t3:Int):Option Int:=
 some t3
def Jt(a1:(List zj))(kx4:(Int→Option Int))(kb6:((Int×Int)→Option Int))(s5:(Int×Int)):Option Int:=
 if s5.2 < (a1.length:Int) then((idx a1 s5.2).bind fun v8=>(if ¬v8.Key=s5.1 then(some (-1)) else((idx a1 s5.2).bind fun v11=>(if ¬v11.Value=(IntKind.wrap .i64 (s5.1+1)) then(some (-1)) else(kb6 (IntKind.wrap .i64 ((IntKind.wrap .i64 (s5.1+1))+1),IntKind.wrap .i64 (s5.2+1))))))) else(kx4 s5.1)
def Zr(a1:(List zj))(a2:Int):Option Int:=
 iter (Jt a1 Jv) FU (a2,0)
def JA(t3:Int):Option Int:=
 some t3
def Jp(a1:(List zC))(kx4:(Int→Option Int))(kb6:((Int×Int)→Option Int))(s5:(Int×Int)):Option Int:=
 if s5.2 < (a1.length:Int) then((idx a1 s5.2).bind fun v8=>(if ¬v8.Tx=s5.1 then(some (-1)) else((idx a1 s5.2).bind fun v11=>(if ¬v11.Lo=(IntKind.wrap .i64 (s5.1+1)) then(some (-1)) else((idx a1 s5.2).bind fun v14=>(if ¬v14.Hi=(IntKind.wrap .i64 ((IntKind.wrap .i64 (s5.1+1))+1)) then(some (-1)) else((idx a1 s5.2).bind fun v17=>(if ¬v17.Mode=(IntKind.wrap .i64 ((IntKind.wrap .i64 ((IntKind.wrap .i64 (s5.1+1))+1))+1)) then(some (-1)) else(kb6 (IntKind.wrap .i64 ((IntKind.wrap .i64 ((IntKind.wrap .i64 ((IntKind.wrap .i64 (s5.1+1))+1))+1))+1),IntKind.wrap .i64 (s5.2+1))))))))))) else(kx4 s5.1)
def Zw(a1:(List zC))(a2:Int):Option Int:=
 iter (Jp a1 JA) FU (a2,0)
def QZ(t3:Int):Option Int:=
 some t3
def QS(a1:(List zj))(kx4:(Int→Option Int))(kb6:((Int×Int)→Option Int))(s5:(Int×Int)):Option Int:=
 if s5.2 < (a1.length:Int) then((idx a1 s5.2).bind fun v8=>(if ¬v8.Key=s5.1 then(some (-1)) else((idx a1 s5.2).bind fun v11=>(if ¬v11.Value=(IntKind.wrap .i64 (s5.1+1)) then(some (-1)) else(kb6 (IntKind.wrap .i64 ((IntKind.wrap .i64 (s5.1+1))+1),IntKind.wrap .i64 (s5.2+1))))))) else(kx4 s5.1)
def ZW(a1:(List zj))(a2:Int):Option Int:=
 iter (QS a1 QZ) FU (a2,0)
def Jn(t3:Int):Option Int:=
 some t3
def Jw(a1:(List zL))(kx4:(Int→Option Int))(kb6:((Int×Int)→Option Int))(s5:(Int×Int)):Option Int:=
 if s5.2 < (a1.length:Int) then((idx a1 s5.2).bind fun v8=>(if ¬v8.Tx=s5.1 then(some (-1)) else((idx a1 s5.2).bind fun v11=>(ZW v11.Writes<|IntKind.wrap .i64 (s5.1+1)).bind fun v13=>(if v13 < 0 then(some (-1)) else(kb6 (v13,IntKind.wrap .i64 (s5.2+1))))))) else(kx4 s5.1)
def Zh(a1:(List zL))(a2:Int):Option Int:=
 iter (Jw a1 Jn) FU (a2,0)
def YB(t3:Int):Option Int:=
 some t3
def YE(a1:(List Int))(kx4:(Int→Option Int))(kb6:((Int×Int)→Option Int))(s5:(Int×Int)):Option Int:=
 if s5.2 < (a1.length:Int) then((idx a1 s5.2).bind fun v8=>(if ¬v8=s5.1 then(some (-1)) else(kb6 (IntKind.wrap .i64 (s5.1+1),IntKind.wrap .i64 (s5.2+1))))) else(kx4 s5.1)
def yE(a1:(List Int))(a2:Int):Option Int:=
 iter (YE a1 YB) FU (a2,0)
def Zv(a1:zp)(a2:Int):Option Int:=
 (j0 a1.Own a2).bind fun v3=>(if v3 < 0 then(some (-1)) else((j0 a1.Frozen v3).bind fun v6=>(if v6 < 0 then(some (-1)) else((Zr a1.Cells v6).bind fun v9=>(if v9 < 0 then(some (-1)) else((Zw a1.Locks v9).bind fun v12=>(if v12 < 0 then(some (-1)) else((Zh a1.Helds v12).bind fun v15=>(if v15 < 0 then(some (-1)) else((yE a1.Wounded v15).bind fun v18=>(if v18 < 0 then(some (-1)) else((yE a1.Ended v18).bind fun v21=>(if v21 < 0 then(some (-1)) else(some v21))))))))))))))
def jG(v13:(zp×Int))(v35:(Int×zp))(t52:Bool):Option Bool:=
 if t52=true then(some false) else((Zv (zp.mk v13.1.Me v35.2.Own v35.2.Frozen v35.2.Cells v35.2.Locks v35.2.Helds v35.2.Wounded v35.2.Ended v13.1.Rank) 1).bind fun v55=>(if v55 < 0 then(some false) else(if ¬v55=v35.1 then(some false) else(some true))))
def jd(v13:(zp×Int))(a1:zp)(a2:Int)(a3:Bool)(v9:(zp×Int))(t32:Bool):Option Bool:=
 if t32=true then(some false) else((Zt v13.1 1).bind fun v35=>(if v35.2.Own.length=v13.1.Own.length then(if v35.2.Frozen.length=v13.1.Frozen.length then(if v35.2.Cells.length=v13.1.Cells.length then(if v35.2.Locks.length=v13.1.Locks.length then(if v35.2.Helds.length=v13.1.Helds.length then(if v35.2.Wounded.length=v13.1.Wounded.length then(if v35.2.Ended.length=v13.1.Ended.length then((Zv (zp.mk v13.1.Me v35.2.Own v35.2.Frozen v35.2.Cells v35.2.Locks v35.2.Helds v35.2.Wounded v35.2.Ended v13.1.Rank) 1).bind fun v44=>(if v44 < 0 then(some false) else(if ¬v44=v35.1 then(some false) else((yQ a1).bind fun v48=>(yH v48 a2 a3).bind fun v50=>(yN v50.1 v9.1).bind fun v59=>(if v59=true then((jG v13 v35)<|decide (¬v50.2=v9.2)) else((jG v13 v35) true)))))) else none) else none) else none) else none) else none) else none) else none))
def jE(a1:zp)(v11:zp)(v13:(zp×Int))(a2:Int)(a3:Bool)(v9:(zp×Int))(t15:Bool):Option Bool:=
 if t15=true then(some false) else((yQ a1).bind fun v18=>(yN v11 v18).bind fun v20=>(if v20=true then((Zt v11 1).bind fun v23=>(if v23.2.Own.length=v11.Own.length then(if v23.2.Frozen.length=v11.Frozen.length then(if v23.2.Cells.length=v11.Cells.length then(if v23.2.Locks.length=v11.Locks.length then(if v23.2.Helds.length=v11.Helds.length then(if v23.2.Wounded.length=v11.Wounded.length then(if v23.2.Ended.length=v11.Ended.length then(if v23.1 < 0 then((jd v13 a1 a2 a3 v9) true) else((yN v13.1 v9.1).bind fun v63=>(if v63=true then((jd v13 a1 a2 a3 v9)<|decide (¬v13.2=v9.2)) else((jd v13 a1 a2 a3 v9) true)))) else none) else none) else none) else none) else none) else none) else none)) else(some false)))
def yG(a1:zp)(a2:Int)(a3:Bool):Option Bool:=
 (JI a1 1048576).bind fun v4=>(if v4 < 0 then(some true) else((yQ a1).bind fun v7=>(ZG v7 a2 a3).bind fun v9=>(yQ a1).bind fun v11=>(yH v11 a2 a3).bind fun v13=>(yN v13.1 v9.1).bind fun v66=>(if v66=true then((jE a1 v11 v13 a2 a3 v9)<|decide (¬v13.2=v9.2)) else((jE a1 v11 v13 a2 a3 v9) true))))
abbrev qa(x:zC):List C:=[dI x.Tx,dI x.Lo,dI x.Hi,dI x.Mode]
abbrev jm(x:zL):List C:=[dI x.Tx,.d<|.sl 2<|List.map zd x.Writes]
abbrev zK(x:zp):List C:=[dI x.Me,.d<|.sl 2<|List.map zg x.Own,.d<|.sl 2<|List.map zg x.Frozen,.d<|.sl 2<|List.map zd x.Cells,.d<|.sl 4<|List.map zo x.Locks,.d<|.sl 2<|List.map zx x.Helds,.d<|.sl 1<|List.map zm x.Wounded,.d<|.sl 1<|List.map zm x.Ended,dI x.Rank]
end Go.AW
