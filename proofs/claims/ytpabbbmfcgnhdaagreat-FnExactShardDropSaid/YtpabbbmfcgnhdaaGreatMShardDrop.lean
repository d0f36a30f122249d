/- Plain functions that say what functions of the program compute. Conditions: none. -/
import Derived.Test.YtpabbbmfcgnhdaaGreatYs
import Derived.Test.YtpabbbmfcgnhdaaGreatYi
set_option linter.unusedVariables false
set_option linter.unusedSimpArgs false
set_option maxRecDepth 100000
namespace Go.AW
structure ze where
 Lo:Int
 Hi:Int
deriving DecidableEq
def YY(x:ze):Prop:=inK .i64 x.Lo∧inK .i64 x.Hi
structure zn where
 Key:Int
 Value:Int
deriving DecidableEq
def xE(x:zn):Prop:=inK .i64 x.Key∧inK .i64 x.Value
structure zL where
 Tx:Int
 Lo:Int
 Hi:Int
 Mode:Int
deriving DecidableEq
def zb1(x:zL):Prop:=inK .i64 x.Tx∧inK .i64 x.Lo∧inK .i64 x.Hi∧inK .i64 x.Mode
structure zN where
 Tx:Int
 Writes:(List zn)
deriving DecidableEq
def X5(x:zN):Prop:=inK .i64 x.Tx∧okS xE x.Writes
structure zo where
 Me:Int
 Own:(List ze)
 Frozen:(List ze)
 Cells:(List zn)
 Locks:(List zL)
 Helds:(List zN)
 Wounded:(List Int)
 Ended:(List Int)
 Rank:Int
deriving DecidableEq
def zau(x:zo):Prop:=inK .i64 x.Me∧okS YY x.Own∧okS YY x.Frozen∧okS xE x.Cells∧okS zb1 x.Locks∧okS X5 x.Helds∧okS (inK .i64) x.Wounded∧okS (inK .i64) x.Ended∧inK .i64 x.Rank
abbrev zd(x:ze):List D:=[(.int .i64 x.Lo),(.int .i64 x.Hi)]
abbrev zj(x:zn):List D:=[(.int .i64 x.Key),(.int .i64 x.Value)]
abbrev zp(x:zL):List D:=[(.int .i64 x.Tx),(.int .i64 x.Lo),(.int .i64 x.Hi),(.int .i64 x.Mode)]
abbrev zB(x:zN):List D:=[(.int .i64 x.Tx),(.sl 2 (List.map zj x.Writes))]
abbrev zt(x:Int):List D:=[(.int .i64 x)]
abbrev zR(x:zo):List D:=[(.int .i64 x.Me),(.sl 2 (List.map zd x.Own)),(.sl 2 (List.map zd x.Frozen)),(.sl 2 (List.map zj x.Cells)),(.sl 4 (List.map zp x.Locks)),(.sl 2 (List.map zB x.Helds)),(.sl 1 (List.map zt x.Wounded)),(.sl 1 (List.map zt x.Ended)),(.int .i64 x.Rank)]
abbrev yg(x:Bool):List D:=[(.bool x)]
abbrev Qd(x:(List Int)):List D:=[(.sl 1 (List.map zt x))]
abbrev Qz(x:(List ze)):List D:=[(.sl 2 (List.map zd x))]
abbrev zds(x:(List zn)):List D:=[(.sl 2 (List.map zj x))]
abbrev zio(x:(List zN)):List D:=[(.sl 2 (List.map zB x))]
abbrev zia(x:(List zL)):List D:=[(.sl 4 (List.map zp x))]
def ZV(a1:(List ze))(a2:Int):Option Int:=
 (if (IntKind.wrap .i64 (a2 - (a1.length:Int))) < 0 then(some (-1)) else(some (IntKind.wrap .i64 (a2 - (a1.length:Int)))))
def Yz(a1:(List zn))(a2:Int):Option Int:=
 (if (IntKind.wrap .i64 (a2 - (a1.length:Int))) < 0 then(some (-1)) else(some (IntKind.wrap .i64 (a2 - (a1.length:Int)))))
def Ys(a1:(List zL))(a2:Int):Option Int:=
 (if (IntKind.wrap .i64 (a2 - (a1.length:Int))) < 0 then(some (-1)) else(some (IntKind.wrap .i64 (a2 - (a1.length:Int)))))
def Jo(a1:(List zn))(a2:Int):Option Int:=
 (if (IntKind.wrap .i64 (a2 - (a1.length:Int))) < 0 then(some (-1)) else(some (IntKind.wrap .i64 (a2 - (a1.length:Int)))))
def xB(a1:zN)(a2:Int):Option Int:=
 ((Jo a1.Writes a2).bind fun v3=>(if v3 < 0 then(some (-1)) else(some v3)))
def xS(t4:Int):Option Int:=
 (some t4)
def xM(a1:(List zN))(kx5:(Int→Option Int))(kb7:((Int×Int)→Option Int))(s6:(Int×Int)):Option Int:=
 (if s6.2 < (a1.length:Int) then((idx a1 s6.2).bind fun v9=>((xB v9 s6.1).bind fun v11=>(if v11 < 0 then(some (-1)) else(kb7 (v11,(IntKind.wrap .i64 (s6.2+1))))))) else(kx5 s6.1))
def J1(a1:(List zN))(a2:Int):Option Int:=
 (if (IntKind.wrap .i64 (a2 - (a1.length:Int))) < 0 then(some (-1)) else(iter (xM a1 xS) FU ((IntKind.wrap .i64 (a2 - (a1.length:Int))),0)))
def Jw(a1:(List Int))(a2:Int):Option Int:=
 (if (IntKind.wrap .i64 (a2 - (a1.length:Int))) < 0 then(some (-1)) else(some (IntKind.wrap .i64 (a2 - (a1.length:Int)))))
def J9(a1:zo)(a2:Int):Option Int:=
 ((ZV a1.Own a2).bind fun v3=>(if v3 < 0 then(some (-1)) else((ZV a1.Frozen v3).bind fun v6=>(if v6 < 0 then(some (-1)) else((Yz a1.Cells v6).bind fun v9=>(if v9 < 0 then(some (-1)) else((Ys a1.Locks v9).bind fun v12=>(if v12 < 0 then(some (-1)) else((J1 a1.Helds v12).bind fun v15=>(if v15 < 0 then(some (-1)) else((Jw a1.Wounded v15).bind fun v18=>(if v18 < 0 then(some (-1)) else((Jw a1.Ended v18).bind fun v21=>(if v21 < 0 then(some (-1)) else(some v21)))))))))))))))
def yU(a1:ze):Option ze:=
 (some a1)
def Y8(t3:(List ze)):Option (List ze):=
 (some t3)
def xc(a1:(List ze))(kx4:((List ze)→Option (List ze)))(kb6:(((List ze)×Int)→Option (List ze)))(s5:((List ze)×Int)):Option (List ze):=
 (if s5.2 < (a1.length:Int) then((idx a1 s5.2).bind fun v8=>((yU v8).bind fun v10=>((idx s5.1 s5.2).bind fun v12=>(kb6 (s5.1.set (Int.toNat s5.2) v10,(IntKind.wrap .i64 (s5.2+1))))))) else(kx4 s5.1))
def ZU(a1:(List ze)):Option (List ze):=
 (if 0≤(a1.length:Int)∧(a1.length:Int)≤2147483648 then(iter (xc a1 Y8) FU ((List.replicate (Int.toNat (a1.length:Int)) (ze.mk 0 0)),0)) else none)
def XT(a1:zn):Option zn:=
 (some a1)
def kg(t3:(List zn)):Option (List zn):=
 (some t3)
def xY(a1:(List zn))(kx4:((List zn)→Option (List zn)))(kb6:(((List zn)×Int)→Option (List zn)))(s5:((List zn)×Int)):Option (List zn):=
 (if s5.2 < (a1.length:Int) then((idx a1 s5.2).bind fun v8=>((XT v8).bind fun v10=>((idx s5.1 s5.2).bind fun v12=>(kb6 (s5.1.set (Int.toNat s5.2) v10,(IntKind.wrap .i64 (s5.2+1))))))) else(kx4 s5.1))
def Yt(a1:(List zn)):Option (List zn):=
 (if 0≤(a1.length:Int)∧(a1.length:Int)≤2147483648 then(iter (xY a1 kg) FU ((List.replicate (Int.toNat (a1.length:Int)) (zn.mk 0 0)),0)) else none)
def XX(a1:zL):Option zL:=
 (some a1)
def ke(t3:(List zL)):Option (List zL):=
 (some t3)
def x9(a1:(List zL))(kx4:((List zL)→Option (List zL)))(kb6:(((List zL)×Int)→Option (List zL)))(s5:((List zL)×Int)):Option (List zL):=
 (if s5.2 < (a1.length:Int) then((idx a1 s5.2).bind fun v8=>((XX v8).bind fun v10=>((idx s5.1 s5.2).bind fun v12=>(kb6 (s5.1.set (Int.toNat s5.2) v10,(IntKind.wrap .i64 (s5.2+1))))))) else(kx4 s5.1))
def Yq(a1:(List zL)):Option (List zL):=
 (if 0≤(a1.length:Int)∧(a1.length:Int)≤2147483648 then(iter (x9 a1 ke) FU ((List.replicate (Int.toNat (a1.length:Int)) (zL.mk 0 0 0 0)),0)) else none)
def k8(a1:zn):Option zn:=
 (some a1)
def YK(t3:(List zn)):Option (List zn):=
 (some t3)
def YO(a1:(List zn))(kx4:((List zn)→Option (List zn)))(kb6:(((List zn)×Int)→Option (List zn)))(s5:((List zn)×Int)):Option (List zn):=
 (if s5.2 < (a1.length:Int) then((idx a1 s5.2).bind fun v8=>((k8 v8).bind fun v10=>((idx s5.1 s5.2).bind fun v12=>(kb6 (s5.1.set (Int.toNat s5.2) v10,(IntKind.wrap .i64 (s5.2+1))))))) else(kx4 s5.1))
def Jp(a1:(List zn)):Option (List zn):=
 (if 0≤(a1.length:Int)∧(a1.length:Int)≤2147483648 then(iter (YO a1 YK) FU ((List.replicate (Int.toNat (a1.length:Int)) (zn.mk 0 0)),0)) else none)
def xw(a1:zN):Option zN:=
 ((Jp a1.Writes).bind fun v2=>(some (zN.mk a1.Tx v2)))
def xW(t3:(List zN)):Option (List zN):=
 (some t3)
def xT(a1:(List zN))(kx4:((List zN)→Option (List zN)))(kb6:(((List zN)×Int)→Option (List zN)))(s5:((List zN)×Int)):Option (List zN):=
 (if s5.2 < (a1.length:Int) then((idx a1 s5.2).bind fun v8=>((xw v8).bind fun v10=>((idx s5.1 s5.2).bind fun v12=>(kb6 (s5.1.set (Int.toNat s5.2) v10,(IntKind.wrap .i64 (s5.2+1))))))) else(kx4 s5.1))
def YC(a1:(List zN)):Option (List zN):=
 (if 0≤(a1.length:Int)∧(a1.length:Int)≤2147483648 then(iter (xT a1 xW) FU ((List.replicate (Int.toNat (a1.length:Int)) (zN.mk 0 ([]:(List zn)))),0)) else none)
def Xi(t3:(List Int)):Option (List Int):=
 (some t3)
def kP(a1:(List Int))(kx4:((List Int)→Option (List Int)))(kb6:(((List Int)×Int)→Option (List Int)))(s5:((List Int)×Int)):Option (List Int):=
 (if s5.2 < (a1.length:Int) then((idx a1 s5.2).bind fun v8=>((idx s5.1 s5.2).bind fun v10=>(kb6 (s5.1.set (Int.toNat s5.2) v8,(IntKind.wrap .i64 (s5.2+1)))))) else(kx4 s5.1))
def Jy(a1:(List Int)):Option (List Int):=
 (if 0≤(a1.length:Int)∧(a1.length:Int)≤2147483648 then(iter (kP a1 Xi) FU ((List.replicate (Int.toNat (a1.length:Int)) 0),0)) else none)
def yQ(a1:zo):Option zo:=
 ((ZU a1.Own).bind fun v2=>((ZU a1.Frozen).bind fun v4=>((Yt a1.Cells).bind fun v6=>((Yq a1.Locks).bind fun v8=>((YC a1.Helds).bind fun v10=>((Jy a1.Wounded).bind fun v12=>((Jy a1.Ended).bind fun v14=>(some (zo.mk a1.Me v2 v4 v6 v8 v10 v12 v14 a1.Rank)))))))))
def yz(a1:Int)(a2:Int)(a3:Int):Option Bool:=
 (if a2≤a1 then(some (decide (a1≤a3))) else(some false))
def qL(a1:ze):Option Bool:=
 (if 0≤a1.Lo then(if a1.Lo < a1.Hi then(some (decide (a1.Hi≤1000))) else(some false)) else(some false))
def XI(t3:Unit):Option Bool:=
 (some true)
def ZE(kb6:(Int→Option Bool))(s5:Int)(t8:Bool):Option Bool:=
 (if t8=true then(some false) else(kb6 (IntKind.wrap .i64 (s5+1))))
def Y5(a1:(List ze))(kx4:(Unit→Option Bool))(kb6:(Int→Option Bool))(s5:Int):Option Bool:=
 (if s5 < (a1.length:Int) then((idx a1 s5).bind fun v11=>((qL v11).bind fun v13=>(if v13=true then(if 0 < s5 then((idx a1 s5).bind fun v17=>((idx a1 (IntKind.wrap .i64 (s5 - 1))).bind fun v19=>((ZE kb6 s5) (decide (v17.Lo < v19.Hi))))) else((ZE kb6 s5) false)) else((ZE kb6 s5) true)))) else(kx4 ()))
def yy(a1:(List ze)):Option Bool:=
 (if 16 < (a1.length:Int) then(some false) else(iter (Y5 a1 XI) FU 0))
def JB(a1:Int):Option Bool:=
 ((yz a1 0 999).bind fun v2=>(some v2))
def J4(a1:Int):Option Bool:=
 ((yz a1 0 1000000000).bind fun v2=>(some v2))
def Kb(t3:Unit):Option Bool:=
 (some true)
def Zf(kb6:(Int→Option Bool))(s5:Int)(t8:Bool):Option Bool:=
 (if t8=true then(some false) else(kb6 (IntKind.wrap .i64 (s5+1))))
def kl(a1:(List zn))(kx4:(Unit→Option Bool))(kb6:(Int→Option Bool))(s5:Int):Option Bool:=
 (if s5 < (a1.length:Int) then((idx a1 s5).bind fun v11=>((JB v11.Key).bind fun v13=>(if v13=true then((idx a1 s5).bind fun v16=>((J4 v16.Value).bind fun v18=>(if v18=true then(if 0 < s5 then((idx a1 (IntKind.wrap .i64 (s5 - 1))).bind fun v22=>((idx a1 s5).bind fun v24=>((Zf kb6 s5) (decide (v24.Key≤v22.Key))))) else((Zf kb6 s5) false)) else((Zf kb6 s5) true)))) else((Zf kb6 s5) true)))) else(kx4 ()))
def ZK(a1:(List zn)):Option Bool:=
 (if 60 < (a1.length:Int) then(some false) else(iter (kl a1 Kb) FU 0))
def Jf(a1:Int):Option Bool:=
 ((yz a1 1 60).bind fun v2=>(some v2))
def qT(a1:zL):Option ze:=
 (some (ze.mk a1.Lo a1.Hi))
def J0(a1:Int):Option Bool:=
 (if a1=1 then(some true) else(some (decide (a1=2))))
def Xh(a1:Int)(a2:Int):Option Int:=
 (if a2 < a1 then(some a1) else(some a2))
def kV(a1:Int)(a2:Int):Option Int:=
 (if a1 < a2 then(some a1) else(some a2))
def y4(v3:Int)(v5:Int)(t7:Bool):Option (ze×Bool):=
 (if t7=true then(some ((ze.mk 0 0),false)) else(some ((ze.mk v3 v5),true)))
def yH(a1:ze)(a2:ze):Option (ze×Bool):=
 ((Xh a1.Lo a2.Lo).bind fun v3=>((kV a1.Hi a2.Hi).bind fun v5=>((qL a1).bind fun v10=>(if v10=true then((qL a2).bind fun v13=>(if v13=true then((qL (ze.mk v3 v5)).bind fun v16=>((y4 v3 v5) (!v16))) else((y4 v3 v5) true))) else((y4 v3 v5) true)))))
def Jl(a1:zL)(a2:zL):Option Bool:=
 ((qT a1).bind fun v3=>((qT a2).bind fun v5=>((yH v3 v5).bind fun v7=>(if v7.2=true then(if ¬a1.Tx=a2.Tx then(if a1.Mode=2 then(some true) else(some (decide (a2.Mode=2)))) else(some false)) else(some false)))))
def Kh(t3:Unit):Option Bool:=
 (some true)
def Za(kb6:(Int→Option Bool))(s5:Int)(t8:Unit):Option Bool:=
 (kb6 (IntKind.wrap .i64 (s5+1)))
def YW(s5:Int)(a1:(List zL))(kx9:(Unit→Option Bool))(kb14:(Int→Option Bool))(s13:Int):Option Bool:=
 (if s13 < s5 then((idx a1 s5).bind fun v16=>((idx a1 s13).bind fun v18=>((Jl v16 v18).bind fun v20=>(if v20=true then(some false) else(kb14 (IntKind.wrap .i64 (s13+1))))))) else(kx9 ()))
def Zy(s5:Int)(a1:(List zL))(kx9:(Unit→Option Bool))(t10:Bool):Option Bool:=
 (if t10=true then(some false) else(iter (YW s5 a1 kx9) FU 0))
def kd(a1:(List zL))(kx4:(Unit→Option Bool))(kb6:(Int→Option Bool))(s5:Int):Option Bool:=
 (if s5 < (a1.length:Int) then((idx a1 s5).bind fun v23=>((Jf v23.Tx).bind fun v25=>(if v25=true then((idx a1 s5).bind fun v28=>((qT v28).bind fun v30=>((qL v30).bind fun v32=>(if v32=true then((idx a1 s5).bind fun v35=>((J0 v35.Mode).bind fun v37=>((Zy s5 a1 (Za kb6 s5)) (!v37)))) else((Zy s5 a1 (Za kb6 s5)) true))))) else((Zy s5 a1 (Za kb6 s5)) true)))) else(kx4 ()))
def JV(a1:(List zL)):Option Bool:=
 (if 40 < (a1.length:Int) then(some false) else(iter (kd a1 Kh) FU 0))
def KI(t2:Unit):Option Bool:=
 (some true)
def Qn(kb5:(Int→Option Bool))(s4:Int)(t7:Bool):Option Bool:=
 (if t7=true then(some false) else(kb5 (IntKind.wrap .i64 (s4+1))))
def kQ(a1:(List Int))(kx3:(Unit→Option Bool))(kb5:(Int→Option Bool))(s4:Int):Option Bool:=
 (if s4 < (a1.length:Int) then((idx a1 s4).bind fun v10=>((Jf v10).bind fun v12=>(if v12=true then(if 0 < s4 then((idx a1 (IntKind.wrap .i64 (s4 - 1))).bind fun v16=>((idx a1 s4).bind fun v18=>((Qn kb5 s4) (decide (v18≤v16))))) else((Qn kb5 s4) false)) else((Qn kb5 s4) true)))) else(kx3 ()))
def Jx(a1:(List Int)):Option Bool:=
 (iter (kQ a1 KI) FU 0)
def Jd(a2:ze)(t6:Int):Option Bool:=
 (some (decide (a2.Hi≤t6)))
def Zl(a1:(List ze))(s8:(Int×Int))(kb9:((Int×Int)→Option Bool))(t11:Bool):Option Bool:=
 (if t11=true then((idx a1 s8.2).bind fun v14=>(kb9 (v14.Hi,(IntKind.wrap .i64 (s8.2+1))))) else(kb9 (s8.1,(IntKind.wrap .i64 (s8.2+1)))))
def Ja(a1:(List ze))(kx7:(Int→Option Bool))(kb9:((Int×Int)→Option Bool))(s8:(Int×Int)):Option Bool:=
 (if s8.2 < (a1.length:Int) then((idx a1 s8.2).bind fun v16=>(if v16.Lo≤s8.1 then((idx a1 s8.2).bind fun v19=>((Zl a1 s8 kb9) (decide (s8.1 < v19.Hi)))) else((Zl a1 s8 kb9) false))) else(kx7 s8.1))
def yh(a1:(List ze))(a2:ze)(t3:Bool):Option Bool:=
 (if t3=true then(some false) else(iter (Ja a1 (Jd a2)) FU (a2.Lo,0)))
def jE(a1:(List ze))(a2:ze):Option Bool:=
 ((yy a1).bind fun v21=>(if v21=true then((qL a2).bind fun v24=>((yh a1 a2) (!v24))) else((yh a1 a2) true)))
def xK(a1:Int):Option ze:=
 (some (ze.mk a1 (IntKind.wrap .i64 (a1+1))))
def Xb(t3:Unit):Option Bool:=
 (some false)
def Xe(a1:(List Int))(a2:Int)(kx4:(Unit→Option Bool))(kb6:(Int→Option Bool))(s5:Int):Option Bool:=
 (if s5 < (a1.length:Int) then((idx a1 s5).bind fun v8=>(if v8=a2 then(some true) else(kb6 (IntKind.wrap .i64 (s5+1))))) else(kx4 ()))
def yN(a1:(List Int))(a2:Int):Option Bool:=
 (iter (Xe a1 a2 Xb) FU 0)
def Xx(t3:Unit):Option Bool:=
 (some true)
def yI(kb6:(Int→Option Bool))(s5:Int)(t8:Bool):Option Bool:=
 (if t8=true then(some false) else(kb6 (IntKind.wrap .i64 (s5+1))))
def Y1(a1:(List zn))(kx4:(Unit→Option Bool))(kb6:(Int→Option Bool))(s5:Int):Option Bool:=
 (if s5 < (a1.length:Int) then((idx a1 s5).bind fun v11=>((JB v11.Key).bind fun v13=>(if v13=true then((idx a1 s5).bind fun v16=>((yz v16.Value (-1) 1000000000).bind fun v18=>(if v18=true then(if 0 < s5 then((idx a1 (IntKind.wrap .i64 (s5 - 1))).bind fun v22=>((idx a1 s5).bind fun v24=>((yI kb6 s5) (decide (v24.Key≤v22.Key))))) else((yI kb6 s5) false)) else((yI kb6 s5) true)))) else((yI kb6 s5) true)))) else(kx4 ()))
def y9(a1:(List zn)):Option Bool:=
 (if 60 < (a1.length:Int) then(some false) else(iter (Y1 a1 Xx) FU 0))
def JX(a1:ze)(a2:ze):Option Bool:=
 ((qL a1).bind fun v3=>(if v3=true then((qL a2).bind fun v6=>(if v6=true then(if a2.Lo≤a1.Lo then(some (decide (a1.Hi≤a2.Hi))) else(some false)) else(some false))) else(some false)))
def XF(t5:Unit):Option Bool:=
 (some false)
def y6(kb8:(Int→Option Bool))(s7:Int)(t10:Bool):Option Bool:=
 (if t10=true then(some true) else(kb8 (IntKind.wrap .i64 (s7+1))))
def YS(a1:(List zL))(a2:Int)(a3:ze)(a4:Int)(kx6:(Unit→Option Bool))(kb8:(Int→Option Bool))(s7:Int):Option Bool:=
 (if s7 < (a1.length:Int) then((idx a1 s7).bind fun v13=>(if v13.Tx=a2 then((idx a1 s7).bind fun v16=>((qT v16).bind fun v18=>((JX a3 v18).bind fun v20=>(if v20=true then((idx a1 s7).bind fun v23=>((y6 kb8 s7) (decide (a4≤v23.Mode)))) else((y6 kb8 s7) false))))) else((y6 kb8 s7) false))) else(kx6 ()))
def Jn(a1:(List zL))(a2:Int)(a3:ze)(a4:Int):Option Bool:=
 (iter (YS a1 a2 a3 a4 XF) FU 0)
def kB(t2:Unit):Option Bool:=
 (some true)
def jb(kb5:(Int→Option Bool))(s4:Int)(t7:Unit):Option Bool:=
 (kb5 (IntKind.wrap .i64 (s4+1)))
def Zi(kx8:(Unit→Option Bool))(t16:Bool):Option Bool:=
 (if t16=true then(some false) else(kx8 ()))
def Qj(a1:zo)(v9:zN)(kx8:(Unit→Option Bool))(t14:Unit):Option Bool:=
 ((yN a1.Wounded v9.Tx).bind fun v19=>(if v19=true then((Zi kx8) true) else((yN a1.Ended v9.Tx).bind fun v22=>((Zi kx8) v22))))
def Qk(v9:zN)(a1:zo)(kx15:(Unit→Option Bool))(kb25:(Int→Option Bool))(s24:Int):Option Bool:=
 (if s24 < (v9.Writes.length:Int) then((idx v9.Writes s24).bind fun v27=>((xK v27.Key).bind fun v29=>((Jn a1.Locks v9.Tx v29 2).bind fun v31=>(if v31=true then(kb25 (IntKind.wrap .i64 (s24+1))) else(some false))))) else(kx15 ()))
def jm(v9:zN)(a1:zo)(kx8:(Unit→Option Bool))(t11:Bool):Option Bool:=
 (if t11=true then(some false) else(iter (Qk v9 a1 (Qj a1 v9 kx8)) FU 0))
def Jb(a1:zo)(kx3:(Unit→Option Bool))(kb5:(Int→Option Bool))(s4:Int):Option Bool:=
 (if s4 < (a1.Helds.length:Int) then((idx a1.Helds s4).bind fun v9=>((Jf v9.Tx).bind fun v34=>(if v34=true then(if 0 < s4 then((idx a1.Helds (IntKind.wrap .i64 (s4 - 1))).bind fun v38=>(if v9.Tx≤v38.Tx then((jm v9 a1 (jb kb5 s4)) true) else((y9 v9.Writes).bind fun v41=>((jm v9 a1 (jb kb5 s4)) (!v41))))) else((y9 v9.Writes).bind fun v43=>((jm v9 a1 (jb kb5 s4)) (!v43)))) else((jm v9 a1 (jb kb5 s4)) true)))) else(kx3 ()))
def Z2(a1:zo):Option Bool:=
 (iter (Jb a1 kB) FU 0)
def KM(t3:Unit):Option Int:=
 (some (-1))
def kL(a1:(List zn))(a2:Int)(kx4:(Unit→Option Int))(kb6:(Int→Option Int))(s5:Int):Option Int:=
 (if s5 < (a1.length:Int) then((idx a1 s5).bind fun v8=>(if v8.Key=a2 then((idx a1 s5).bind fun v11=>(some v11.Value)) else(kb6 (IntKind.wrap .i64 (s5+1))))) else(kx4 ()))
def xz(a1:(List zn))(a2:Int):Option Int:=
 (iter (kL a1 a2 KM) FU 0)
def xb(t6:Int):Option Int:=
 (some t6)
def Z9(kb9:((Int×Int)→Option Int))(s8:(Int×Int))(t11:Bool):Option Int:=
 (if t11=true then(kb9 ((IntKind.wrap .i64 (s8.1+1)),(IntKind.wrap .i64 (s8.2+1)))) else(kb9 (s8.1,(IntKind.wrap .i64 (s8.2+1)))))
def YU(a2:(List zn))(a1:(List zn))(kx7:(Int→Option Int))(kb9:((Int×Int)→Option Int))(s8:(Int×Int)):Option Int:=
 (if s8.2 < (a2.length:Int) then((idx a2 s8.2).bind fun v14=>(if 0≤v14.Value then((idx a2 s8.2).bind fun v17=>((xz a1 v17.Key).bind fun v19=>((Z9 kb9 s8) (decide (v19 < 0))))) else((Z9 kb9 s8) false))) else(kx7 s8.1))
def Qu(a2:(List zn))(a1:(List zn))(t3:Bool):Option Int:=
 (if t3=true then(some (-1)) else(iter (YU a2 a1 xb) FU (0,0)))
def Jt(a1:(List zn))(a2:(List zn)):Option Int:=
 ((ZK a1).bind fun v21=>(if v21=true then((y9 a2).bind fun v24=>((Qu a2 a1) (!v24))) else((Qu a2 a1) true)))
def k9(t2:Int):Option Int:=
 (some t2)
def kS(a1:zo)(kx3:(Int→Option Int))(kb5:((Int×Int)→Option Int))(s4:(Int×Int)):Option Int:=
 (if s4.2 < (a1.Helds.length:Int) then((idx a1.Helds s4.2).bind fun v7=>((Jt a1.Cells v7.Writes).bind fun v9=>(kb5 ((IntKind.wrap .i64 (s4.1+v9)),(IntKind.wrap .i64 (s4.2+1)))))) else(kx3 s4.1))
def xC(a1:zo):Option Int:=
 (iter (kS a1 k9) FU (0,0))
def QG(a1:zo)(t14:Unit):Option Bool:=
 ((Z2 a1).bind fun v16=>(if v16=true then((xC a1).bind fun v19=>(some (decide ((IntKind.wrap .i64 ((a1.Cells.length:Int)+v19))≤60)))) else(some false)))
def xd(a1:zo)(kx15:(Unit→Option Bool))(kb22:(Int→Option Bool))(s21:Int):Option Bool:=
 (if s21 < (a1.Wounded.length:Int) then((idx a1.Wounded s21).bind fun v24=>((yN a1.Ended v24).bind fun v26=>(if v26=true then(some false) else(kb22 (IntKind.wrap .i64 (s21+1)))))) else(kx15 ()))
def QD(a1:zo)(t12:Unit):Option Bool:=
 (iter (xd a1 (QG a1)) FU 0)
def ZG(kb30:(Int→Option Bool))(s29:Int)(t34:Bool):Option Bool:=
 (if t34=true then(some false) else(kb30 (IntKind.wrap .i64 (s29+1))))
def xj(a1:zo)(kx13:(Unit→Option Bool))(kb30:(Int→Option Bool))(s29:Int):Option Bool:=
 (if s29 < (a1.Locks.length:Int) then((idx a1.Locks s29).bind fun v32=>((qT v32).bind fun v37=>((jE a1.Own v37).bind fun v39=>(if v39=true then((yN a1.Wounded v32.Tx).bind fun v42=>(if v42=true then((ZG kb30 s29) true) else((yN a1.Ended v32.Tx).bind fun v45=>((ZG kb30 s29) v45)))) else((ZG kb30 s29) true))))) else(kx13 ()))
def QM(a1:zo)(t10:Unit):Option Bool:=
 (iter (xj a1 (QD a1)) FU 0)
def YN(a1:zo)(kx11:(Unit→Option Bool))(kb48:(Int→Option Bool))(s47:Int):Option Bool:=
 (if s47 < (a1.Cells.length:Int) then((idx a1.Cells s47).bind fun v50=>((xK v50.Key).bind fun v52=>((jE a1.Own v52).bind fun v54=>(if v54=true then(kb48 (IntKind.wrap .i64 (s47+1))) else(some false))))) else(kx11 ()))
def Jg(a1:zo)(t8:Unit):Option Bool:=
 (iter (YN a1 (QM a1)) FU 0)
def YM(a1:zo)(kx9:(Unit→Option Bool))(kb58:(Int→Option Bool))(s57:Int):Option Bool:=
 (if s57 < (a1.Frozen.length:Int) then((idx a1.Frozen s57).bind fun v60=>((jE a1.Own v60).bind fun v62=>(if v62=true then(kb58 (IntKind.wrap .i64 (s57+1))) else(some false)))) else(kx9 ()))
def jL(a1:zo)(t5:Bool):Option Bool:=
 (if t5=true then(some false) else(iter (YM a1 (Jg a1)) FU 0))
def jK(a1:zo)(t2:Bool):Option Bool:=
 (if t2=true then(some false) else(if 60 < (a1.Helds.length:Int) then((jL a1) true) else(if 60 < (a1.Wounded.length:Int) then((jL a1) true) else(if 60 < (a1.Ended.length:Int) then((jL a1) true) else((Jx a1.Wounded).bind fun v68=>(if v68=true then((Jx a1.Ended).bind fun v71=>((jL a1) (!v71))) else((jL a1) true)))))))
def Yx(a1:zo):Option Bool:=
 ((yz a1.Me 0 3).bind fun v73=>(if v73=true then((yy a1.Own).bind fun v76=>(if v76=true then((yy a1.Frozen).bind fun v79=>(if v79=true then((ZK a1.Cells).bind fun v82=>(if v82=true then((JV a1.Locks).bind fun v85=>(if v85=true then((yz a1.Rank 0 1000000).bind fun v88=>((jK a1) (!v88))) else((jK a1) true))) else((jK a1) true))) else((jK a1) true))) else((jK a1) true))) else((jK a1) true)))
def ZT(a2:Int)(a1:zo)(t4:Bool):Option Int:=
 (if t4=true then(some 1) else(if a2 < a1.Rank then(some 2) else(some 0)))
def Yw(a1:zo)(a2:Int)(a3:ze):Option Int:=
 ((Yx a1).bind fun v8=>(if v8=true then((yz a2 1 1000000).bind fun v11=>(if v11=true then((qL a3).bind fun v14=>((ZT a2 a1) (!v14))) else((ZT a2 a1) true))) else((ZT a2 a1) true)))
def ko(a1:zo)(t6:(List zN)):Option zo:=
 (if a1.Wounded.length≤2147483648 then(if a1.Ended.length≤2147483648 then(some (zo.mk a1.Me a1.Own a1.Frozen a1.Cells a1.Locks t6 a1.Wounded a1.Ended a1.Rank)) else none) else none)
def YL(a1:zo)(kx7:((List zN)→Option zo))(kb11:((Int×(List zN))→Option zo))(s10:(Int×(List zN))):Option zo:=
 (if s10.1 < (a1.Helds.length:Int) then((idx a1.Helds s10.1).bind fun v13=>(if v13.Writes.length≤2147483648 then(if (s10.2++[v13]).length≤2147483648 then(kb11 ((IntKind.wrap .i64 (s10.1+1)),(s10.2++[v13]))) else none) else none)) else(kx7 s10.2))
def QH(a1:zo):Option zo:=
 (if a1.Own.length≤2147483648 then(if a1.Frozen.length≤2147483648 then(if a1.Cells.length≤2147483648 then(if a1.Locks.length≤2147483648 then(iter (YL a1 (ko a1)) FU (0,([]:List zN))) else none) else none) else none) else none)
def Z5(a1:zo)(a2:Int):Option zo:=
 (if a2=1 then(some (zo.mk 0 ([]:(List ze)) ([]:(List ze)) ([]:(List zn)) ([]:(List zL)) ([]:(List zN)) ([]:(List Int)) ([]:(List Int)) 0)) else((QH a1).bind fun v4=>(some v4)))
def XL(t3:Unit):Option Bool:=
 (some false)
def xe(a1:(List ze))(a2:ze)(kx4:(Unit→Option Bool))(kb6:(Int→Option Bool))(s5:Int):Option Bool:=
 (if s5 < (a1.length:Int) then((idx a1 s5).bind fun v8=>((yH v8 a2).bind fun v10=>(if v10.2=true then(some true) else(kb6 (IntKind.wrap .i64 (s5+1)))))) else(kx4 ()))
def Jj(a1:(List ze))(a2:ze):Option Bool:=
 (iter (xe a1 a2 XL) FU 0)
def Zx(t12:(List ze)):Option ((List ze)×Bool):=
 (if 16 < ((t12.length:Nat):Int) then(some (([]:(List ze)),false)) else(some (t12,true)))
def QF(s15:((List ze)×Int×Int))(t18:Int)(kb16:(((List ze)×Int×Int)→Option ((List ze)×Bool)))(t20:Bool):Option ((List ze)×Bool):=
 (if t20=true then(if (s15.1++([(ze.mk t18 s15.2.2)])).length≤2147483648 then(kb16 ((s15.1++([(ze.mk t18 s15.2.2)])),(-1),(IntKind.wrap .i64 (s15.2.2+1)))) else none) else(kb16 (s15.1,t18,(IntKind.wrap .i64 (s15.2.2+1)))))
def ZC(t10:(List Bool))(s15:((List ze)×Int×Int))(kb16:(((List ze)×Int×Int)→Option ((List ze)×Bool)))(t18:Int):Option ((List ze)×Bool):=
 ((idx t10 s15.2.2).bind fun v24=>(if v24=true then((QF s15 t18 kb16) false) else((QF s15 t18 kb16) (decide (0≤t18)))))
def Qs(kx19:(Int→Option ((List ze)×Bool)))(s15:((List ze)×Int×Int))(t27:Bool):Option ((List ze)×Bool):=
 (if t27=true then(kx19 s15.2.2) else(kx19 s15.2.1))
def Qq(t10:(List Bool))(kx13:((List ze)→Option ((List ze)×Bool)))(kb16:(((List ze)×Int×Int)→Option ((List ze)×Bool)))(s15:((List ze)×Int×Int)):Option ((List ze)×Bool):=
 (if s15.2.2≤1000 then((idx t10 s15.2.2).bind fun v30=>(if v30=true then((Qs (ZC t10 s15 kb16) s15) (decide (s15.2.1 < 0))) else((Qs (ZC t10 s15 kb16) s15) false))) else(kx13 s15.1))
def Qw(t10:(List Bool)):Option ((List ze)×Bool):=
 (iter (Qq t10 Zx) FU (([]:List ze),(-1),0))
def xi(a2:ze)(a3:Bool)(kx11:((List Bool)→Option ((List ze)×Bool)))(kb34:(((List Bool)×Int)→Option ((List ze)×Bool)))(s33:((List Bool)×Int)):Option ((List ze)×Bool):=
 (if s33.2 < a2.Hi then((idx s33.1 s33.2).bind fun v36=>(kb34 (s33.1.set (Int.toNat s33.2) a3,(IntKind.wrap .i64 (s33.2+1))))) else(kx11 s33.1))
def xR(a2:ze)(a3:Bool)(t8:(List Bool)):Option ((List ze)×Bool):=
 (iter (xi a2 a3 Qw) FU (t8,a2.Lo))
def QN(kb39:(((List Bool)×Int)→Option ((List ze)×Bool)))(s38:((List Bool)×Int))(t41:(List Bool)):Option ((List ze)×Bool):=
 (kb39 (t41,(IntKind.wrap .i64 (s38.2+1))))
def Y2(a1:(List ze))(s38:((List Bool)×Int))(kx42:((List Bool)→Option ((List ze)×Bool)))(kb46:(((List Bool)×Int)→Option ((List ze)×Bool)))(s45:((List Bool)×Int)):Option ((List ze)×Bool):=
 ((idx a1 s38.2).bind fun v47=>(if s45.2 < v47.Hi then((idx s45.1 s45.2).bind fun v50=>(kb46 (s45.1.set (Int.toNat s45.2) true,(IntKind.wrap .i64 (s45.2+1))))) else(kx42 s45.1)))
def Qm(a1:(List ze))(kx9:((List Bool)→Option ((List ze)×Bool)))(kb39:(((List Bool)×Int)→Option ((List ze)×Bool)))(s38:((List Bool)×Int)):Option ((List ze)×Bool):=
 (if s38.2 < (a1.length:Int) then((idx a1 s38.2).bind fun v43=>(iter (Y2 a1 s38 (QN kb39 s38)) FU (s38.1,v43.Lo))) else(kx9 s38.1))
def Zb(a1:(List ze))(a2:ze)(a3:Bool)(t4:Bool):Option ((List ze)×Bool):=
 (if t4=true then(some (([]:(List ze)),false)) else(if (0:Int)≤1001∧(1001:Int)≤2147483648 then(iter (Qm a1 (xR a2 a3)) FU ((List.replicate (Int.toNat 1001) false),0)) else none))
def Yv(a1:(List ze))(a2:ze)(a3:Bool):Option ((List ze)×Bool):=
 ((yy a1).bind fun v52=>(if v52=true then((qL a2).bind fun v55=>((Zb a1 a2 a3) (!v55))) else((Zb a1 a2 a3) true)))
def y5(a1:(List ze))(a2:ze):Option ((List ze)×Bool):=
 ((Yv a1 a2 false).bind fun v3=>(some (v3.1,v3.2)))
def ZY(t4:(List zn)):Option (List zn):=
 (some t4)
def Z0(a1:(List zn))(a2:ze)(a3:Bool)(kx5:((List zn)→Option (List zn)))(kb7:(((List zn)×Int)→Option (List zn)))(s6:((List zn)×Int)):Option (List zn):=
 (if s6.2 < (a1.length:Int) then((ZK a1).bind fun v9=>(if v9=true then((qL a2).bind fun v12=>(if v12=true then((idx a1 s6.2).bind fun v15=>((yz v15.Key a2.Lo (IntKind.wrap .i64 (a2.Hi - 1))).bind fun v17=>(if (v17 == a3)=true then((idx a1 s6.2).bind fun v20=>(if (s6.1++([v20])).length≤2147483648 then(kb7 ((s6.1++([v20])),(IntKind.wrap .i64 (s6.2+1)))) else none)) else(kb7 (s6.1,(IntKind.wrap .i64 (s6.2+1))))))) else(kx5 s6.1))) else(kx5 s6.1))) else(kx5 s6.1))
def Ye(a1:(List zn))(a2:ze)(a3:Bool):Option (List zn):=
 (iter (Z0 a1 a2 a3 ZY) FU (([]:List zn),0))
def Ji(a1:(List zn))(a2:ze):Option (List zn):=
 ((Ye a1 a2 false).bind fun v3=>(some v3))
def ZH(v9:zo)(a1:zo)(a3:ze)(v19:((List ze)×Bool))(v21:((List ze)×Bool))(a2:Int)(t23:Bool):Option (zo×Int):=
 (if t23=true then(some (v9,6)) else((Ji a1.Cells a3).bind fun v26=>(some ((zo.mk v9.Me v19.1 v21.1 v26 v9.Locks v9.Helds v9.Wounded v9.Ended a2),0))))
def ZM(v9:zo)(a1:zo)(a3:ze)(a2:Int)(t16:Bool):Option (zo×Int):=
 (if t16=true then(some (v9,4)) else((y5 a1.Own a3).bind fun v19=>((y5 a1.Frozen a3).bind fun v21=>(if v19.2=true then((ZH v9 a1 a3 v19 v21 a2) (!v21.2)) else((ZH v9 a1 a3 v19 v21 a2) true)))))
def QW(a1:zo)(a3:ze)(v9:zo)(a2:Int)(t14:Bool):Option (zo×Int):=
 ((jE a1.Frozen a3).bind fun v29=>(if v29=true then((ZM v9 a1 a3 a2) t14) else((ZM v9 a1 a3 a2) true)))
def ZI(a1:zo)(a3:ze)(kx15:(Bool→Option (zo×Int)))(kb33:((Bool×Int)→Option (zo×Int)))(s32:(Bool×Int)):Option (zo×Int):=
 (if s32.2 < (a1.Locks.length:Int) then((idx a1.Locks s32.2).bind fun v35=>((qT v35).bind fun v37=>((yH v37 a3).bind fun v39=>(if s32.1=true then(kb33 (true,(IntKind.wrap .i64 (s32.2+1)))) else(kb33 (v39.2,(IntKind.wrap .i64 (s32.2+1)))))))) else(kx15 s32.1))
def yM(v9:zo)(a1:zo)(a3:ze)(a2:Int)(t11:Bool):Option (zo×Int):=
 (if t11=true then(some (v9,0)) else(iter (ZI a1 a3 (QW a1 a3 v9 a2)) FU (false,0)))
def QI(a1:zo)(a2:Int)(a3:ze):Option (zo×Int):=
 ((Yw a1 a2 a3).bind fun v4=>(if ¬v4=0 then((Z5 a1 v4).bind fun v7=>(some (v7,v4))) else((QH a1).bind fun v9=>(if a2=a1.Rank then((Jj a1.Own a3).bind fun v43=>((yM v9 a1 a3 a2) (!v43))) else((yM v9 a1 a3 a2) false)))))
def yA(a1:Int)(a2:Int)(a3:Int):Option Bool:=
 (if a2≤a1 then(some (decide (a1≤a3))) else(some false))
def Yb(a1:Int):Option Bool:=
 ((yA a1 0 3).bind fun v2=>(some v2))
def j7(a1:ze):Option Bool:=
 (if 0≤a1.Lo then(if a1.Lo < a1.Hi then(some (decide (a1.Hi≤1000))) else(some false)) else(some false))
def YQ(a1:(List ze))(t2:Unit):Option Bool:=
 (some (decide ((a1.length:Int)≤16)))
def Zr(kb5:(Int→Option Bool))(s4:Int)(t9:Bool):Option Bool:=
 (if t9=true then(some false) else(kb5 (IntKind.wrap .i64 (s4+1))))
def xo(a1:(List ze))(kx3:(Unit→Option Bool))(kb5:(Int→Option Bool))(s4:Int):Option Bool:=
 (if s4 < (a1.length:Int) then((idx a1 s4).bind fun v7=>((j7 v7).bind fun v12=>(if v12=true then(if 0 < s4 then((idx a1 (IntKind.wrap .i64 (s4 - 1))).bind fun v16=>((Zr kb5 s4) (decide (v7.Lo < v16.Hi)))) else((Zr kb5 s4) false)) else((Zr kb5 s4) true)))) else(kx3 ()))
def y8(a1:(List ze)):Option Bool:=
 (iter (xo a1 (YQ a1)) FU 0)
def Y7(a1:Int):Option Bool:=
 ((yA a1 0 999).bind fun v2=>(some v2))
def Yj(a1:Int):Option Bool:=
 ((yA a1 0 1000000000).bind fun v2=>(some v2))
def ki(a1:(List zn))(t2:Unit):Option Bool:=
 (some (decide ((a1.length:Int)≤60)))
def Zg(kb5:(Int→Option Bool))(s4:Int)(t9:Bool):Option Bool:=
 (if t9=true then(some false) else(kb5 (IntKind.wrap .i64 (s4+1))))
def xX(a1:(List zn))(kx3:(Unit→Option Bool))(kb5:(Int→Option Bool))(s4:Int):Option Bool:=
 (if s4 < (a1.length:Int) then((idx a1 s4).bind fun v7=>((Y7 v7.Key).bind fun v12=>(if v12=true then((Yj v7.Value).bind fun v15=>(if v15=true then(if 0 < s4 then((idx a1 (IntKind.wrap .i64 (s4 - 1))).bind fun v19=>((Zg kb5 s4) (decide (v7.Key≤v19.Key)))) else((Zg kb5 s4) false)) else((Zg kb5 s4) true))) else((Zg kb5 s4) true)))) else(kx3 ()))
def ZJ(a1:(List zn)):Option Bool:=
 (iter (xX a1 (ki a1)) FU 0)
def kG(a1:Int):Option Bool:=
 ((yA a1 1 60).bind fun v2=>(some v2))
def qH(a1:zL):Option ze:=
 (some (ze.mk a1.Lo a1.Hi))
def Jv(a1:Int):Option Bool:=
 (if a1=1 then(some true) else(some (decide (a1=2))))
def Z6(a1:ze)(a2:ze):Option Bool:=
 (if a1.Lo < a2.Hi then(some (decide (a2.Lo < a1.Hi))) else(some false))
def Xn(a1:zL)(a2:zL):Option Bool:=
 (if ¬a1.Tx=a2.Tx then(if a1.Mode=2 then((qH a1).bind fun v5=>((qH a2).bind fun v7=>((Z6 v5 v7).bind fun v9=>(some v9)))) else(if a2.Mode=2 then((qH a1).bind fun v12=>((qH a2).bind fun v14=>((Z6 v12 v14).bind fun v16=>(some v16)))) else(some false))) else(some false))
def Qy(a1:zL)(a2:zL):Option Bool:=
 ((Xn a2 a1).bind fun v3=>(some v3))
def yb(t3:Unit):Option Int:=
 (some (-1))
def jr(a1:(List zL))(a2:zL)(kx4:(Unit→Option Int))(kb6:(Int→Option Int))(s5:Int):Option Int:=
 (if s5 < (a1.length:Int) then((idx a1 s5).bind fun v8=>((Qy v8 a2).bind fun v10=>(if v10=true then(some s5) else(kb6 (IntKind.wrap .i64 (s5+1)))))) else(kx4 ()))
def jA(a1:(List zL))(a2:zL):Option Int:=
 (iter (jr a1 a2 yb) FU 0)
def qz(a1:(List zL))(a2:zL):Option Bool:=
 ((jA a1 a2).bind fun v3=>(some (decide (0≤v3))))
def kf(a1:(List zL))(t2:Unit):Option Bool:=
 (some (decide ((a1.length:Int)≤40)))
def Zc(kb5:(Int→Option Bool))(s4:Int)(t9:Bool):Option Bool:=
 (if t9=true then(some false) else(kb5 (IntKind.wrap .i64 (s4+1))))
def xV(a1:(List zL))(kx3:(Unit→Option Bool))(kb5:(Int→Option Bool))(s4:Int):Option Bool:=
 (if s4 < (a1.length:Int) then((idx a1 s4).bind fun v7=>((kG v7.Tx).bind fun v12=>(if v12=true then((qH v7).bind fun v15=>((j7 v15).bind fun v17=>(if v17=true then((Jv v7.Mode).bind fun v20=>(if v20=true then((cut a1 0 s4).bind fun v23=>((qz v23 v7).bind fun v25=>((Zc kb5 s4) v25))) else((Zc kb5 s4) true))) else((Zc kb5 s4) true)))) else((Zc kb5 s4) true)))) else(kx3 ()))
def QC(a1:(List zL)):Option Bool:=
 (iter (xV a1 (kf a1)) FU 0)
def Jr(a1:Int):Option Bool:=
 ((yA a1 (-1) 1000000000).bind fun v2=>(some v2))
def xk(a1:(List zn))(t2:Unit):Option Bool:=
 (some (decide ((a1.length:Int)≤60)))
def yJ(kb5:(Int→Option Bool))(s4:Int)(t9:Bool):Option Bool:=
 (if t9=true then(some false) else(kb5 (IntKind.wrap .i64 (s4+1))))
def YJ(a1:(List zn))(kx3:(Unit→Option Bool))(kb5:(Int→Option Bool))(s4:Int):Option Bool:=
 (if s4 < (a1.length:Int) then((idx a1 s4).bind fun v7=>((Y7 v7.Key).bind fun v12=>(if v12=true then((Jr v7.Value).bind fun v15=>(if v15=true then(if 0 < s4 then((idx a1 (IntKind.wrap .i64 (s4 - 1))).bind fun v19=>((yJ kb5 s4) (decide (v7.Key≤v19.Key)))) else((yJ kb5 s4) false)) else((yJ kb5 s4) true))) else((yJ kb5 s4) true)))) else(kx3 ()))
def Z1(a1:(List zn)):Option Bool:=
 (iter (YJ a1 (xk a1)) FU 0)
def KK(a1:Int):Option ze:=
 (some (ze.mk a1 (IntKind.wrap .i64 (a1+1))))
def ZO(a1:zL)(a2:Int)(a3:Int)(a4:ze):Option Bool:=
 (if a1.Tx=a2 then(if a1.Mode=a3 then(if a1.Lo≤a4.Lo then(some (decide (a4.Hi≤a1.Hi))) else(some false)) else(if a1.Mode=2 then(if a1.Lo≤a4.Lo then(some (decide (a4.Hi≤a1.Hi))) else(some false)) else(some false))) else(some false))
def jS(t5:Unit):Option Int:=
 (some (-1))
def jc(a1:(List zL))(a2:Int)(a3:Int)(a4:ze)(kx6:(Unit→Option Int))(kb8:(Int→Option Int))(s7:Int):Option Int:=
 (if s7 < (a1.length:Int) then((idx a1 s7).bind fun v10=>((ZO v10 a2 a3 a4).bind fun v12=>(if v12=true then(some s7) else(kb8 (IntKind.wrap .i64 (s7+1)))))) else(kx6 ()))
def jk(a1:(List zL))(a2:Int)(a3:Int)(a4:ze):Option Int:=
 (iter (jc a1 a2 a3 a4 jS) FU 0)
def qp(a1:(List zL))(a2:Int)(a3:Int)(a4:ze):Option Bool:=
 ((jk a1 a2 a3 a4).bind fun v5=>(some (decide (0≤v5))))
def Qt(a1:(List zL))(a2:Int)(a3:ze)(a4:Int):Option Bool:=
 ((QC a1).bind fun v5=>(if v5=true then((j7 a3).bind fun v8=>(if v8=true then((Jv a4).bind fun v11=>(if v11=true then((qp a1 a2 a4 a3).bind fun v14=>(some v14)) else(some false))) else(some false))) else(some false)))
def Qp(a1:zn)(a2:zo)(a3:zN):Option Bool:=
 ((KK a1.Key).bind fun v4=>((Qt a2.Locks a3.Tx v4 2).bind fun v6=>(some (!v6))))
def jZ(t4:Unit):Option Int:=
 (some (-1))
def ji(a1:(List zn))(a2:zo)(a3:zN)(kx5:(Unit→Option Int))(kb7:(Int→Option Int))(s6:Int):Option Int:=
 (if s6 < (a1.length:Int) then((idx a1 s6).bind fun v9=>((Qp v9 a2 a3).bind fun v11=>(if v11=true then(some s6) else(kb7 (IntKind.wrap .i64 (s6+1)))))) else(kx5 ()))
def jt(a1:(List zn))(a2:zo)(a3:zN):Option Int:=
 (iter (ji a1 a2 a3 jZ) FU 0)
def qu(a1:(List zn))(a2:zo)(a3:zN):Option Bool:=
 ((jt a1 a2 a3).bind fun v4=>(some (decide (0≤v4))))
def XW(t2:(List Int)):Option (List Int):=
 (some t2)
def XY(a1:(List zN))(kx3:((List Int)→Option (List Int)))(kb5:(((List Int)×Int)→Option (List Int)))(s4:((List Int)×Int)):Option (List Int):=
 (if s4.2 < (a1.length:Int) then((idx a1 s4.2).bind fun v7=>(if (s4.1++([v7.Tx])).length≤2147483648 then(kb5 ((s4.1++([v7.Tx])),(IntKind.wrap .i64 (s4.2+1)))) else none)) else(kx3 s4.1))
def xg(a1:(List zN)):Option (List Int):=
 (iter (XY a1 XW) FU (([]:List Int),0))
def kO(t2:Unit):Option Bool:=
 (some true)
def yY(kb5:(Int→Option Bool))(s4:Int)(t9:Bool):Option Bool:=
 (if t9=true then(some false) else(kb5 (IntKind.wrap .i64 (s4+1))))
def JF(a1:(List Int))(kx3:(Unit→Option Bool))(kb5:(Int→Option Bool))(s4:Int):Option Bool:=
 (if s4 < (a1.length:Int) then((idx a1 s4).bind fun v7=>((kG v7).bind fun v12=>(if v12=true then(if 0 < s4 then((idx a1 (IntKind.wrap .i64 (s4 - 1))).bind fun v16=>((yY kb5 s4) (decide (v7≤v16)))) else((yY kb5 s4) false)) else((yY kb5 s4) true)))) else(kx3 ()))
def yK(a1:(List Int)):Option Bool:=
 (iter (JF a1 kO) FU 0)
def xZ(a1:zo)(t2:Unit):Option Bool:=
 ((xg a1.Helds).bind fun v4=>((yK v4).bind fun v6=>(some v6)))
def Qv(kb9:(Int→Option Bool))(s8:Int)(t13:Bool):Option Bool:=
 (if t13=true then(some false) else(kb9 (IntKind.wrap .i64 (s8+1))))
def xO(a1:zo)(kx3:(Unit→Option Bool))(kb9:(Int→Option Bool))(s8:Int):Option Bool:=
 (if s8 < (a1.Helds.length:Int) then((idx a1.Helds s8).bind fun v11=>((Z1 v11.Writes).bind fun v16=>(if v16=true then((qu v11.Writes a1 v11).bind fun v19=>((Qv kb9 s8) v19)) else((Qv kb9 s8) true)))) else(kx3 ()))
def Yo(a1:zo):Option Bool:=
 (iter (xO a1 (xZ a1)) FU 0)
def kc(a2:ze)(t3:Int):Option Bool:=
 (some (decide (a2.Hi≤t3)))
def QL(kb6:((Int×Int)→Option Bool))(v8:ze)(s5:(Int×Int))(t10:Bool):Option Bool:=
 (if t10=true then(kb6 (v8.Hi,(IntKind.wrap .i64 (s5.2+1)))) else(kb6 (s5.1,(IntKind.wrap .i64 (s5.2+1)))))
def kp(a1:(List ze))(kx4:(Int→Option Bool))(kb6:((Int×Int)→Option Bool))(s5:(Int×Int)):Option Bool:=
 (if s5.2 < (a1.length:Int) then((idx a1 s5.2).bind fun v8=>(if v8.Lo≤s5.1 then((QL kb6 v8 s5) (decide (s5.1 < v8.Hi))) else((QL kb6 v8 s5) false))) else(kx4 s5.1))
def yP(a1:(List ze))(a2:ze):Option Bool:=
 (iter (kp a1 (kc a2)) FU (a2.Lo,0))
def QR(a1:ze)(a2:zo):Option Bool:=
 ((yP a2.Own a1).bind fun v3=>(some (!v3)))
def j0(t3:Unit):Option Int:=
 (some (-1))
def jj(a1:(List ze))(a2:zo)(kx4:(Unit→Option Int))(kb6:(Int→Option Int))(s5:Int):Option Int:=
 (if s5 < (a1.length:Int) then((idx a1 s5).bind fun v8=>((QR v8 a2).bind fun v10=>(if v10=true then(some s5) else(kb6 (IntKind.wrap .i64 (s5+1)))))) else(kx4 ()))
def jo(a1:(List ze))(a2:zo):Option Int:=
 (iter (jj a1 a2 j0) FU 0)
def qw(a1:(List ze))(a2:zo):Option Bool:=
 ((jo a1 a2).bind fun v3=>(some (decide (0≤v3))))
def QJ(a1:zn)(a2:zo):Option Bool:=
 ((KK a1.Key).bind fun v3=>((yP a2.Own v3).bind fun v5=>(some (!v5))))
def j8(t3:Unit):Option Int:=
 (some (-1))
def js(a1:(List zn))(a2:zo)(kx4:(Unit→Option Int))(kb6:(Int→Option Int))(s5:Int):Option Int:=
 (if s5 < (a1.length:Int) then((idx a1 s5).bind fun v8=>((QJ v8 a2).bind fun v10=>(if v10=true then(some s5) else(kb6 (IntKind.wrap .i64 (s5+1)))))) else(kx4 ()))
def jz(a1:(List zn))(a2:zo):Option Int:=
 (iter (js a1 a2 j8) FU 0)
def qB(a1:(List zn))(a2:zo):Option Bool:=
 ((jz a1 a2).bind fun v3=>(some (decide (0≤v3))))
def Xm(a1:List Int)(a2:Int):Option (List Int):=
 if 0≤a2∧a2≤1000000000 then some [] else none
def Z4(t6:(List Int)):Option (List Int):=
 (some t6)
def Qb(a1:(List (List Int)))(kx7:((List Int)→Option (List Int)))(kb9:(((List Int)×Int)→Option (List Int)))(s8:((List Int)×Int)):Option (List Int):=
 (if s8.2 < (a1.length:Int) then((idx a1 s8.2).bind fun v11=>(if (s8.1++v11).length≤2147483648 then(kb9 ((s8.1++v11),(IntKind.wrap .i64 (s8.2+1)))) else none)) else(kx7 s8.1))
def Z8(a1:(List (List Int)))(t2:Int):Option (List Int):=
 ((Xm ([]:(List Int)) t2).bind fun v4=>(iter (Qb a1 Z4) FU (v4,0)))
def ZQ(a1:(List (List Int)))(kx3:(Int→Option (List Int)))(kb15:((Int×Int)→Option (List Int)))(s14:(Int×Int)):Option (List Int):=
 (if s14.2 < (a1.length:Int) then((idx a1 s14.2).bind fun v17=>(if (IntKind.wrap .i64 (s14.1+(v17.length:Int))) < 0 then none else(kb15 ((IntKind.wrap .i64 (s14.1+(v17.length:Int))),(IntKind.wrap .i64 (s14.2+1)))))) else(kx3 s14.1))
def Zj(a1:(List (List Int))):Option (List Int):=
 (iter (ZQ a1 (Z8 a1)) FU (0,0))
def xt(t3:Unit):Option Int:=
 (some (-1))
def Qi(a1:(List Int))(a2:Int)(kx4:(Unit→Option Int))(kb6:(Int→Option Int))(s5:Int):Option Int:=
 (if s5 < (a1.length:Int) then((idx a1 s5).bind fun v8=>(if a2=v8 then(some s5) else(kb6 (IntKind.wrap .i64 (s5+1))))) else(kx4 ()))
def Jc(a1:(List Int))(a2:Int):Option Int:=
 (iter (Qi a1 a2 xt) FU 0)
def yG(a1:(List Int))(a2:Int):Option Bool:=
 ((Jc a1 a2).bind fun v3=>(some (decide (0≤v3))))
def QA(a1:zL)(a2:zo)(a3:(List Int)):Option Bool:=
 ((qH a1).bind fun v4=>((yP a2.Own v4).bind fun v6=>(if v6=true then((yG a3 a1.Tx).bind fun v9=>(some v9)) else(some true))))
def j9(t4:Unit):Option Int:=
 (some (-1))
def jq(a1:(List zL))(a2:zo)(a3:(List Int))(kx5:(Unit→Option Int))(kb7:(Int→Option Int))(s6:Int):Option Int:=
 (if s6 < (a1.length:Int) then((idx a1 s6).bind fun v9=>((QA v9 a2 a3).bind fun v11=>(if v11=true then(some s6) else(kb7 (IntKind.wrap .i64 (s6+1)))))) else(kx5 ()))
def jx(a1:(List zL))(a2:zo)(a3:(List Int)):Option Int:=
 (iter (jq a1 a2 a3 j9) FU 0)
def qA(a1:(List zL))(a2:zo)(a3:(List Int)):Option Bool:=
 ((jx a1 a2 a3).bind fun v4=>(some (decide (0≤v4))))
def Xo(a1:List Int):Option (List Int):=
 if a1.length≤1000000000 then some (zbM a1) else none
def yw(a1:(List Int))(t2:Unit):Option (List Int):=
 (if a1.length≤2147483648 then(some a1) else none)
def yi(a1:(List Int)):Option (List Int):=
 (if a1.length=0 then((yw a1) ()) else((yw a1) ()))
def JW(a1:List Int):Option (List Int):=
 if a1.length≤1000000000 then some (Go.Lib.compact a1) else none
def ZB(a1:zn)(a2:Int):Option Int:=
 (some (IntKind.wrap .i64 (a1.Key - a2)))
def zV(a1:(List zn))(a2:Int)(t3:Int):Option (Int×Bool):=
 (if t3 < (a1.length:Int) then((idx a1 t3).bind fun v6=>((ZB v6 a2).bind fun v8=>(some (t3,(decide (v8=0)))))) else(some (t3,false)))
def qb(a1:(List zn))(a2:Int)(kx4:(Int→Option (Int×Bool)))(kb11:((Int×Int)→Option (Int×Bool)))(s10:(Int×Int)):Option (Int×Bool):=
 (if s10.1 < s10.2 then((idx a1 (IntKind.wrap .i64 (Int.fdiv (IntKind.wrap .u64 (IntKind.wrap .i64 (s10.1+s10.2))) (2 ^ (min (Int.toNat 1) (IntKind.bits .u64)))))).bind fun v13=>((ZB v13 a2).bind fun v15=>(if v15 < 0 then(kb11 ((IntKind.wrap .i64 ((IntKind.wrap .i64 (Int.fdiv (IntKind.wrap .u64 (IntKind.wrap .i64 (s10.1+s10.2))) (2 ^ (min (Int.toNat 1) (IntKind.bits .u64)))))+1)),s10.2)) else(kb11 (s10.1,(IntKind.wrap .i64 (Int.fdiv (IntKind.wrap .u64 (IntKind.wrap .i64 (s10.1+s10.2))) (2 ^ (min (Int.toNat 1) (IntKind.bits .u64)))))))))) else(kx4 s10.1))
def qx(a1:(List zn))(a2:Int):Option (Int×Bool):=
 (iter (qb a1 a2 (zV a1 a2)) FU (0,(a1.length:Int)))
def Yi(a1:(List zn))(a2:Int):Option (Int×Bool):=
 ((qx a1 a2).bind fun v3=>(some (v3.1,v3.2)))
def Yp(a1:(List zn))(a2:Int):Option Int:=
 ((Yi a1 a2).bind fun v3=>(if v3.2=true then((idx a1 v3.1).bind fun v6=>(some v6.Value)) else(some (-1))))
def YV(t6:Int):Option Int:=
 (some t6)
def Qa(kb9:((Int×Int)→Option Int))(s8:(Int×Int))(t13:Bool):Option Int:=
 (if t13=true then(kb9 ((IntKind.wrap .i64 (s8.1+1)),(IntKind.wrap .i64 (s8.2+1)))) else(kb9 (s8.1,(IntKind.wrap .i64 (s8.2+1)))))
def Y9(a2:(List zn))(a1:(List zn))(kx7:(Int→Option Int))(kb9:((Int×Int)→Option Int))(s8:(Int×Int)):Option Int:=
 (if s8.2 < (a2.length:Int) then((idx a2 s8.2).bind fun v11=>(if ¬v11.Value=(-1) then((Yp a1 v11.Key).bind fun v17=>((Qa kb9 s8) (decide (v17 < 0)))) else((Qa kb9 s8) false))) else(kx7 s8.1))
def Qr(a2:(List zn))(a1:(List zn))(t3:Bool):Option Int:=
 (if t3=true then(some (-1)) else(iter (Y9 a2 a1 YV) FU (0,0)))
def Jh(a1:(List zn))(a2:(List zn)):Option Int:=
 ((ZJ a1).bind fun v19=>(if v19=true then((Z1 a2).bind fun v22=>((Qr a2 a1) (!v22))) else((Qr a2 a1) true)))
def Ko(t2:Int):Option Int:=
 (some t2)
def Kt(a1:zo)(kx3:(Int→Option Int))(kb5:((Int×Int)→Option Int))(s4:(Int×Int)):Option Int:=
 (if s4.2 < (a1.Helds.length:Int) then((idx a1.Helds s4.2).bind fun v7=>((Jh a1.Cells v7.Writes).bind fun v9=>(kb5 ((IntKind.wrap .i64 (s4.1+v9)),(IntKind.wrap .i64 (s4.2+1)))))) else(kx3 s4.1))
def X7(a1:zo):Option Int:=
 (iter (Kt a1 Ko) FU ((a1.Cells.length:Int),0))
def Zd(a1:zo)(t5:Bool):Option Bool:=
 (if t5=true then(some false) else((Zj ([a1.Wounded,a1.Ended])).bind fun v8=>((qA a1.Locks a1 v8).bind fun v10=>(if v10=true then(some false) else((xg a1.Helds).bind fun v13=>(if (v13++v8).length≤2147483648 then((Xo (v13++v8)).bind fun v16=>(if v16.length=(v13++v8).length then((yi v16).bind fun v19=>((JW v19).bind fun v21=>(if (v21.length:Int)=(((v13++v8).length:Nat):Int) then((X7 a1).bind fun v24=>(some (decide (v24≤60)))) else(some false)))) else none)) else none))))))
def qJ(a1:zo)(t2:Bool):Option Bool:=
 (if t2=true then(some false) else((qw a1.Frozen a1).bind fun v26=>(if v26=true then((Zd a1) true) else((qB a1.Cells a1).bind fun v29=>((Zd a1) v29)))))
def QP(a1:zo):Option Bool:=
 ((Yb a1.Me).bind fun v31=>(if v31=true then((y8 a1.Own).bind fun v34=>(if v34=true then((y8 a1.Frozen).bind fun v37=>(if v37=true then((ZJ a1.Cells).bind fun v40=>(if v40=true then((QC a1.Locks).bind fun v43=>(if v43=true then((Yo a1).bind fun v46=>(if v46=true then((yK a1.Wounded).bind fun v49=>(if v49=true then((yK a1.Ended).bind fun v52=>(if v52=true then((yA a1.Rank 0 1000000).bind fun v55=>((qJ a1) (!v55))) else((qJ a1) true))) else((qJ a1) true))) else((qJ a1) true))) else((qJ a1) true))) else((qJ a1) true))) else((qJ a1) true))) else((qJ a1) true))) else((qJ a1) true)))
def ZZ(a2:Int)(a1:zo)(t4:Bool):Option Int:=
 (if t4=true then(some 1) else(if a2 < a1.Rank then(some 2) else(some 0)))
def Yy(a1:zo)(a2:Int)(a3:ze):Option Int:=
 ((QP a1).bind fun v8=>(if v8=true then((yA a2 1 1000000).bind fun v11=>(if v11=true then((j7 a3).bind fun v14=>((ZZ a2 a1) (!v14))) else((ZZ a2 a1) true))) else((ZZ a2 a1) true)))
def j6(a1:(List ze))(t2:Unit):Option (List ze):=
 (if a1.length≤2147483648 then(some a1) else none)
def yk(a1:(List ze)):Option (List ze):=
 (if a1.length=0 then((j6 a1) ()) else((j6 a1) ()))
def yl(a1:(List zn))(t2:Unit):Option (List zn):=
 (if a1.length≤2147483648 then(some a1) else none)
def yu(a1:(List zn)):Option (List zn):=
 (if a1.length=0 then((yl a1) ()) else((yl a1) ()))
def ym(a1:(List zL))(t2:Unit):Option (List zL):=
 (if a1.length≤2147483648 then(some a1) else none)
def Zk(a1:(List zL)):Option (List zL):=
 (if a1.length=0 then((ym a1) ()) else((ym a1) ()))
def j5(a1:(List zn))(t2:Unit):Option (List zn):=
 (if a1.length≤2147483648 then(some a1) else none)
def yT(a1:(List zn)):Option (List zn):=
 (if a1.length=0 then((j5 a1) ()) else((j5 a1) ()))
def Q1(a1:zo)(v2:(List ze))(v4:(List ze))(v6:(List zn))(v8:(List zL))(v10:(List Int))(v12:(List Int))(t14:(List zN)):Option zo:=
 (some (zo.mk a1.Me v2 v4 v6 v8 t14 v10 v12 a1.Rank))
def Q2(a1:zo)(kx15:((List zN)→Option zo))(kb17:((Int×(List zN))→Option zo))(s16:(Int×(List zN))):Option zo:=
 (if s16.1 < (a1.Helds.length:Int) then((idx a1.Helds s16.1).bind fun v19=>((yT v19.Writes).bind fun v21=>(if (s16.2++[(zN.mk v19.Tx v21)]).length≤2147483648 then(kb17 ((IntKind.wrap .i64 (s16.1+1)),(s16.2++[(zN.mk v19.Tx v21)]))) else none))) else(kx15 s16.2))
def yo(a1:zo):Option zo:=
 ((yk a1.Own).bind fun v2=>((yk a1.Frozen).bind fun v4=>((yu a1.Cells).bind fun v6=>((Zk a1.Locks).bind fun v8=>((yi a1.Wounded).bind fun v10=>((yi a1.Ended).bind fun v12=>(iter (Q2 a1 (Q1 a1 v2 v4 v6 v8 v10 v12)) FU (0,([]:List zN)))))))))
def YD(a1:zo)(a2:Int):Option (zo×Int):=
 (if a2=1 then(some ((zo.mk 0 ([]:(List ze)) ([]:(List ze)) ([]:(List zn)) ([]:(List zL)) ([]:(List zN)) ([]:(List Int)) ([]:(List Int)) 0),1)) else((yo a1).bind fun v4=>(some (v4,a2))))
def xl(a1:ze)(a2:ze):Option Bool:=
 ((Z6 a2 a1).bind fun v3=>(some v3))
def jY(t3:Unit):Option Int:=
 (some (-1))
def jh(a1:(List ze))(a2:ze)(kx4:(Unit→Option Int))(kb6:(Int→Option Int))(s5:Int):Option Int:=
 (if s5 < (a1.length:Int) then((idx a1 s5).bind fun v8=>((xl v8 a2).bind fun v10=>(if v10=true then(some s5) else(kb6 (IntKind.wrap .i64 (s5+1)))))) else(kx4 ()))
def jp(a1:(List ze))(a2:ze):Option Int:=
 (iter (jh a1 a2 jY) FU 0)
def qV(a1:(List ze))(a2:ze):Option Bool:=
 ((jp a1 a2).bind fun v3=>(some (decide (0≤v3))))
def J6(a1:(List ze))(a2:ze):Option Bool:=
 ((qV a1 a2).bind fun v3=>(some v3))
def Q5(a1:zL)(a2:ze):Option Bool:=
 ((qH a1).bind fun v3=>((Z6 v3 a2).bind fun v5=>(some v5)))
def jP(t3:Unit):Option Int:=
 (some (-1))
def je(a1:(List zL))(a2:ze)(kx4:(Unit→Option Int))(kb6:(Int→Option Int))(s5:Int):Option Int:=
 (if s5 < (a1.length:Int) then((idx a1 s5).bind fun v8=>((Q5 v8 a2).bind fun v10=>(if v10=true then(some s5) else(kb6 (IntKind.wrap .i64 (s5+1)))))) else(kx4 ()))
def jl(a1:(List zL))(a2:ze):Option Int:=
 (iter (je a1 a2 jP) FU 0)
def qo(a1:(List zL))(a2:ze):Option Bool:=
 ((jl a1 a2).bind fun v3=>(some (decide (0≤v3))))
def jU(a1:ze)(a2:Int):Option Bool:=
 ((yA a2 a1.Lo (IntKind.wrap .i64 (a1.Hi - 1))).bind fun v3=>(some v3))
def Q0(a1:ze)(a2:Int):Option Bool:=
 ((jU a1 a2).bind fun v3=>(some v3))
def jI(t3:Unit):Option Int:=
 (some (-1))
def qW(a1:(List ze))(a2:Int)(kx4:(Unit→Option Int))(kb6:(Int→Option Int))(s5:Int):Option Int:=
 (if s5 < (a1.length:Int) then((idx a1 s5).bind fun v8=>((Q0 v8 a2).bind fun v10=>(if v10=true then(some s5) else(kb6 (IntKind.wrap .i64 (s5+1)))))) else(kx4 ()))
def jd(a1:(List ze))(a2:Int):Option Int:=
 (iter (qW a1 a2 jI) FU 0)
def qm(a1:(List ze))(a2:Int):Option Bool:=
 ((jd a1 a2).bind fun v3=>(some (decide (0≤v3))))
def QB(a1:Int)(a2:ze)(a3:Bool)(a4:(List ze)):Option Bool:=
 ((jU a2 a1).bind fun v5=>(if v5=true then(some a3) else((qm a4 a1).bind fun v8=>(some v8))))
def yp(t4:(List ze)):Option (List ze):=
 (some t4)
def jD(s6:((List ze)×Int))(kb7:(((List ze)×Int)→Option (List ze)))(t12:Bool):Option (List ze):=
 (if t12=true then((idx s6.1 (IntKind.wrap .i64 (((s6.1.length:Nat):Int) - 1))).bind fun v15=>((idx s6.1 (IntKind.wrap .i64 (((s6.1.length:Nat):Int) - 1))).bind fun v17=>(kb7 (s6.1.set (Int.toNat (IntKind.wrap .i64 (((s6.1.length:Nat):Int) - 1))) (ze.mk v17.Lo (IntKind.wrap .i64 (v15.Hi+1))),(IntKind.wrap .i64 (s6.2+1)))))) else(if (s6.1++([(ze.mk s6.2 (IntKind.wrap .i64 (s6.2+1)))])).length≤2147483648 then(kb7 ((s6.1++([(ze.mk s6.2 (IntKind.wrap .i64 (s6.2+1)))])),(IntKind.wrap .i64 (s6.2+1)))) else none))
def yq(a1:ze)(a2:Bool)(a3:(List ze))(kx5:((List ze)→Option (List ze)))(kb7:(((List ze)×Int)→Option (List ze)))(s6:((List ze)×Int)):Option (List ze):=
 (if s6.2 < 1000 then((QB s6.2 a1 a2 a3).bind fun v9=>(if v9=true then(if 0 < ((s6.1.length:Nat):Int) then((idx s6.1 (IntKind.wrap .i64 (((s6.1.length:Nat):Int) - 1))).bind fun v21=>((jD s6 kb7) (decide (v21.Hi=s6.2)))) else((jD s6 kb7) false)) else(kb7 (s6.1,(IntKind.wrap .i64 (s6.2+1)))))) else(kx5 s6.1))
def jJ(a1:ze)(a2:Bool)(a3:(List ze)):Option (List ze):=
 (iter (yq a1 a2 a3 yp) FU (([]:List ze),0))
def Jq(a2:ze)(a3:Bool)(a1:(List ze))(t4:Bool):Option ((List ze)×Bool):=
 (if t4=true then(some (([]:(List ze)),false)) else((jJ a2 a3 a1).bind fun v7=>(if 16 < ((v7.length:Nat):Int) then(some (([]:(List ze)),false)) else(some (v7,true)))))
def Yk(a1:(List ze))(a2:ze)(a3:Bool):Option ((List ze)×Bool):=
 ((y8 a1).bind fun v10=>(if v10=true then((j7 a2).bind fun v13=>((Jq a2 a3 a1) (!v13))) else((Jq a2 a3 a1) true)))
def y7(a1:(List ze))(a2:ze):Option ((List ze)×Bool):=
 ((Yk a1 a2 false).bind fun v3=>(some (v3.1,v3.2)))
def Ze(a1:zn)(a2:ze)(a3:Bool):Option Bool:=
 ((jU a2 a1.Key).bind fun v4=>(some (v4 != a3)))
def yf(t4:Unit):Option Int:=
 (some (-1))
def jy(a1:(List zn))(a2:ze)(a3:Bool)(kx5:(Unit→Option Int))(kb7:(Int→Option Int))(s6:Int):Option Int:=
 (if s6 < (a1.length:Int) then((idx a1 s6).bind fun v9=>((Ze v9 a2 a3).bind fun v11=>(if v11=true then(some s6) else(kb7 (IntKind.wrap .i64 (s6+1)))))) else(kx5 ()))
def qS(a1:(List zn))(a2:ze)(a3:Bool):Option Int:=
 (iter (jy a1 a2 a3 yf) FU 0)
def qG(t7:((List zn)×Int)):Option (List zn):=
 (if (0:Int)≤t7.2∧t7.2≤((t7.1.length:Nat):Int)∧((t7.1.length:Nat):Int)≤((t7.1.length:Nat):Int) then(if (Int.toNat t7.2)+(Int.toNat ((t7.1.length:Nat):Int) - Int.toNat t7.2)≤t7.1.length then(if (0:Int)≤0∧0≤t7.2∧t7.2≤((t7.1.length:Nat):Int) then(some (List.take (Int.toNat t7.2) (List.take (Int.toNat t7.2) t7.1++List.replicate (Int.toNat ((t7.1.length:Nat):Int) - Int.toNat t7.2) (zn.mk 0 0)++List.drop ((Int.toNat t7.2)+(Int.toNat ((t7.1.length:Nat):Int) - Int.toNat t7.2)) t7.1))) else none) else none) else none)
def qE(a2:ze)(a3:Bool)(kx8:(((List zn)×Int)→Option (List zn)))(kb13:(((List zn)×Int×Int)→Option (List zn)))(s12:((List zn)×Int×Int)):Option (List zn):=
 (if s12.2.2 < ((s12.1.length:Nat):Int) then((idx s12.1 s12.2.2).bind fun v15=>((Ze v15 a2 a3).bind fun v17=>(if v17=true then(kb13 (s12.1,s12.2.1,(IntKind.wrap .i64 (s12.2.2+1)))) else((idx s12.1 s12.2.1).bind fun v20=>(kb13 (s12.1.set (Int.toNat s12.2.1) v15,(IntKind.wrap .i64 (s12.2.1+1)),(IntKind.wrap .i64 (s12.2.2+1)))))))) else(kx8 (s12.1,s12.2.1)))
def qN(a1:(List zn))(a2:ze)(a3:Bool):Option (List zn):=
 ((qS a1 a2 a3).bind fun v4=>(if v4=(-1) then(some a1) else(iter (qE a2 a3 qG) FU (a1,v4,(IntKind.wrap .i64 (v4+1))))))
def JY(a1:(List zn))(a2:ze)(a3:Bool)(t4:Bool):Option (List zn):=
 (if t4=true then(some ([]:(List zn))) else((yu a1).bind fun v7=>((qN v7 a2 a3).bind fun v9=>(some v9))))
def xG(a1:(List zn))(a2:ze)(a3:Bool):Option (List zn):=
 ((ZJ a1).bind fun v11=>(if v11=true then((j7 a2).bind fun v14=>((JY a1 a2 a3) (!v14))) else((JY a1 a2 a3) true)))
def Ju(a1:(List zn))(a2:ze):Option (List zn):=
 ((xG a1 a2 false).bind fun v3=>(some v3))
def ZL(v23:zo)(a1:zo)(a3:ze)(v19:((List ze)×Bool))(v21:((List ze)×Bool))(a2:Int)(t25:Bool):Option (zo×Int):=
 (if t25=true then(some (v23,6)) else((Ju a1.Cells a3).bind fun v28=>(some ((zo.mk v23.Me v19.1 v21.1 v28 v23.Locks v23.Helds v23.Wounded v23.Ended a2),0))))
def ZN(a1:zo)(a3:ze)(a2:Int)(t14:Bool):Option (zo×Int):=
 (if t14=true then((yo a1).bind fun v17=>(some (v17,4))) else((y7 a1.Own a3).bind fun v19=>((y7 a1.Frozen a3).bind fun v21=>((yo a1).bind fun v23=>(if v19.2=true then((ZL v23 a1 a3 v19 v21 a2) (!v21.2)) else((ZL v23 a1 a3 v19 v21 a2) true))))))
def y0(a1:zo)(a3:ze)(a2:Int)(t9:Bool):Option (zo×Int):=
 (if t9=true then((yo a1).bind fun v12=>(some (v12,0))) else((yP a1.Frozen a3).bind fun v31=>(if v31=true then((qo a1.Locks a3).bind fun v34=>((ZN a1 a3 a2) v34)) else((ZN a1 a3 a2) true))))
def Zz(a1:zo)(a2:Int)(a3:ze):Option (zo×Int):=
 ((Yy a1 a2 a3).bind fun v4=>(if ¬v4=0 then((YD a1 v4).bind fun v7=>(some (v7.1,v7.2))) else(if a2=a1.Rank then((J6 a1.Own a3).bind fun v37=>((y0 a1 a3 a2) (!v37))) else((y0 a1 a3 a2) false))))
def J8(a1:ze)(a2:ze):Option Bool:=
 (if ¬a1.Lo=a2.Lo then(some false) else(if ¬a1.Hi=a2.Hi then(some false) else(some true)))
def XQ(t4:Unit):Option Bool:=
 (some true)
def YI(a1:(List ze))(a2:(List ze))(kx5:(Unit→Option Bool))(kb7:(Int→Option Bool))(s6:Int):Option Bool:=
 (if s6 < (a1.length:Int) then((idx a1 s6).bind fun v9=>((idx a2 s6).bind fun v11=>((J8 v9 v11).bind fun v13=>(if v13=true then(kb7 (IntKind.wrap .i64 (s6+1))) else(some false))))) else(kx5 ()))
def ZW(a1:(List ze))(a2:(List ze)):Option Bool:=
 (if ¬(a1.length:Int)=(a2.length:Int) then(some false) else(iter (YI a1 a2 XQ) FU 0))
def xL(a1:zn)(a2:zn):Option Bool:=
 (if ¬a1.Key=a2.Key then(some false) else(if ¬a1.Value=a2.Value then(some false) else(some true)))
def Kc(t4:Unit):Option Bool:=
 (some true)
def xU(a1:(List zn))(a2:(List zn))(kx5:(Unit→Option Bool))(kb7:(Int→Option Bool))(s6:Int):Option Bool:=
 (if s6 < (a1.length:Int) then((idx a1 s6).bind fun v9=>((idx a2 s6).bind fun v11=>((xL v9 v11).bind fun v13=>(if v13=true then(kb7 (IntKind.wrap .i64 (s6+1))) else(some false))))) else(kx5 ()))
def YB(a1:(List zn))(a2:(List zn)):Option Bool:=
 (if ¬(a1.length:Int)=(a2.length:Int) then(some false) else(iter (xU a1 a2 Kc) FU 0))
def xJ(a1:zL)(a2:zL):Option Bool:=
 (if ¬a1.Tx=a2.Tx then(some false) else(if ¬a1.Lo=a2.Lo then(some false) else(if ¬a1.Hi=a2.Hi then(some false) else(if ¬a1.Mode=a2.Mode then(some false) else(some true)))))
def Ke(t4:Unit):Option Bool:=
 (some true)
def xP(a1:(List zL))(a2:(List zL))(kx5:(Unit→Option Bool))(kb7:(Int→Option Bool))(s6:Int):Option Bool:=
 (if s6 < (a1.length:Int) then((idx a1 s6).bind fun v9=>((idx a2 s6).bind fun v11=>((xJ v9 v11).bind fun v13=>(if v13=true then(kb7 (IntKind.wrap .i64 (s6+1))) else(some false))))) else(kx5 ()))
def Ya(a1:(List zL))(a2:(List zL)):Option Bool:=
 (if ¬(a1.length:Int)=(a2.length:Int) then(some false) else(iter (xP a1 a2 Ke) FU 0))
def J3(a1:zn)(a2:zn):Option Bool:=
 (if ¬a1.Key=a2.Key then(some false) else(if ¬a1.Value=a2.Value then(some false) else(some true)))
def XG(t4:Unit):Option Bool:=
 (some true)
def YR(a1:(List zn))(a2:(List zn))(kx5:(Unit→Option Bool))(kb7:(Int→Option Bool))(s6:Int):Option Bool:=
 (if s6 < (a1.length:Int) then((idx a1 s6).bind fun v9=>((idx a2 s6).bind fun v11=>((J3 v9 v11).bind fun v13=>(if v13=true then(kb7 (IntKind.wrap .i64 (s6+1))) else(some false))))) else(kx5 ()))
def Jm(a1:(List zn))(a2:(List zn)):Option Bool:=
 (if ¬(a1.length:Int)=(a2.length:Int) then(some false) else(iter (YR a1 a2 XG) FU 0))
def xD(a1:zN)(a2:zN):Option Bool:=
 (if ¬a1.Tx=a2.Tx then(some false) else((Jm a1.Writes a2.Writes).bind fun v4=>(if v4=true then(some true) else(some false))))
def Ka(t4:Unit):Option Bool:=
 (some true)
def ka(a1:(List zN))(a2:(List zN))(kx5:(Unit→Option Bool))(kb7:(Int→Option Bool))(s6:Int):Option Bool:=
 (if s6 < (a1.length:Int) then((idx a1 s6).bind fun v9=>((idx a2 s6).bind fun v11=>((xD v9 v11).bind fun v13=>(if v13=true then(kb7 (IntKind.wrap .i64 (s6+1))) else(some false))))) else(kx5 ()))
def Yh(a1:(List zN))(a2:(List zN)):Option Bool:=
 (if ¬(a1.length:Int)=(a2.length:Int) then(some false) else(iter (ka a1 a2 Ka) FU 0))
def KU(t4:Unit):Option Bool:=
 (some true)
def kX(a1:(List Int))(a2:(List Int))(kx5:(Unit→Option Bool))(kb7:(Int→Option Bool))(s6:Int):Option Bool:=
 (if s6 < (a1.length:Int) then((idx a1 s6).bind fun v9=>((idx a2 s6).bind fun v11=>(if ¬v9=v11 then(some false) else(kb7 (IntKind.wrap .i64 (s6+1)))))) else(kx5 ()))
def JA(a1:(List Int))(a2:(List Int)):Option Bool:=
 (if ¬(a1.length:Int)=(a2.length:Int) then(some false) else(iter (kX a1 a2 KU) FU 0))
def yV(a1:zo)(a2:zo):Option Bool:=
 (if ¬a1.Me=a2.Me then(some false) else((ZW a1.Own a2.Own).bind fun v4=>(if v4=true then((ZW a1.Frozen a2.Frozen).bind fun v7=>(if v7=true then((YB a1.Cells a2.Cells).bind fun v10=>(if v10=true then((Ya a1.Locks a2.Locks).bind fun v13=>(if v13=true then((Yh a1.Helds a2.Helds).bind fun v16=>(if v16=true then((JA a1.Wounded a2.Wounded).bind fun v19=>(if v19=true then((JA a1.Ended a2.Ended).bind fun v22=>(if v22=true then(if ¬a1.Rank=a2.Rank then(some false) else(some true)) else(some false))) else(some false))) else(some false))) else(some false))) else(some false))) else(some false))) else(some false))))
def QY(a1:(List ze))(t3:((List ze)×Int)):Option (Int×(List ze)):=
 (if t3.1.length=a1.length then(some (t3.2,t3.1)) else none)
def Q8(kx4:(((List ze)×Int)→Option (Int×(List ze))))(kb7:(((List ze)×Int×Int)→Option (Int×(List ze))))(s6:((List ze)×Int×Int)):Option (Int×(List ze)):=
 (if s6.2.2 < ((s6.1.length:Nat):Int) then((idx s6.1 s6.2.2).bind fun v9=>((idx (s6.1.set (Int.toNat s6.2.2) (ze.mk s6.2.1 v9.Hi)) s6.2.2).bind fun v11=>(kb7 ((s6.1.set (Int.toNat s6.2.2) (ze.mk s6.2.1 v9.Hi)).set (Int.toNat s6.2.2) (ze.mk v11.Lo (IntKind.wrap .i64 (s6.2.1+1))),(IntKind.wrap .i64 ((IntKind.wrap .i64 (s6.2.1+1))+1)),(IntKind.wrap .i64 (s6.2.2+1)))))) else(kx4 (s6.1,s6.2.1)))
def j3(a1:(List ze))(a2:Int):Option (Int×(List ze)):=
 (iter (Q8 (QY a1)) FU (a1,a2,0))
def JH(a1:(List zn))(t3:((List zn)×Int)):Option (Int×(List zn)):=
 (if t3.1.length=a1.length then(some (t3.2,t3.1)) else none)
def JG(kx4:(((List zn)×Int)→Option (Int×(List zn))))(kb7:(((List zn)×Int×Int)→Option (Int×(List zn))))(s6:((List zn)×Int×Int)):Option (Int×(List zn)):=
 (if s6.2.2 < ((s6.1.length:Nat):Int) then((idx s6.1 s6.2.2).bind fun v9=>((idx (s6.1.set (Int.toNat s6.2.2) (zn.mk s6.2.1 v9.Value)) s6.2.2).bind fun v11=>(kb7 ((s6.1.set (Int.toNat s6.2.2) (zn.mk s6.2.1 v9.Value)).set (Int.toNat s6.2.2) (zn.mk v11.Key (IntKind.wrap .i64 (s6.2.1+1))),(IntKind.wrap .i64 ((IntKind.wrap .i64 (s6.2.1+1))+1)),(IntKind.wrap .i64 (s6.2.2+1)))))) else(kx4 (s6.1,s6.2.1)))
def Zt(a1:(List zn))(a2:Int):Option (Int×(List zn)):=
 (iter (JG (JH a1)) FU (a1,a2,0))
def JR(a1:(List zL))(t3:((List zL)×Int)):Option (Int×(List zL)):=
 (if t3.1.length=a1.length then(some (t3.2,t3.1)) else none)
def JO(kx4:(((List zL)×Int)→Option (Int×(List zL))))(kb7:(((List zL)×Int×Int)→Option (Int×(List zL))))(s6:((List zL)×Int×Int)):Option (Int×(List zL)):=
 (if s6.2.2 < ((s6.1.length:Nat):Int) then((idx s6.1 s6.2.2).bind fun v9=>((idx (s6.1.set (Int.toNat s6.2.2) (zL.mk s6.2.1 v9.Lo v9.Hi v9.Mode)) s6.2.2).bind fun v11=>((idx ((s6.1.set (Int.toNat s6.2.2) (zL.mk s6.2.1 v9.Lo v9.Hi v9.Mode)).set (Int.toNat s6.2.2) (zL.mk v11.Tx (IntKind.wrap .i64 (s6.2.1+1)) v11.Hi v11.Mode)) s6.2.2).bind fun v13=>((idx (((s6.1.set (Int.toNat s6.2.2) (zL.mk s6.2.1 v9.Lo v9.Hi v9.Mode)).set (Int.toNat s6.2.2) (zL.mk v11.Tx (IntKind.wrap .i64 (s6.2.1+1)) v11.Hi v11.Mode)).set (Int.toNat s6.2.2) (zL.mk v13.Tx v13.Lo (IntKind.wrap .i64 ((IntKind.wrap .i64 (s6.2.1+1))+1)) v13.Mode)) s6.2.2).bind fun v15=>(kb7 ((((s6.1.set (Int.toNat s6.2.2) (zL.mk s6.2.1 v9.Lo v9.Hi v9.Mode)).set (Int.toNat s6.2.2) (zL.mk v11.Tx (IntKind.wrap .i64 (s6.2.1+1)) v11.Hi v11.Mode)).set (Int.toNat s6.2.2) (zL.mk v13.Tx v13.Lo (IntKind.wrap .i64 ((IntKind.wrap .i64 (s6.2.1+1))+1)) v13.Mode)).set (Int.toNat s6.2.2) (zL.mk v15.Tx v15.Lo v15.Hi (IntKind.wrap .i64 ((IntKind.wrap .i64 ((IntKind.wrap .i64 (s6.2.1+1))+1))+1))),(IntKind.wrap .i64 ((IntKind.wrap .i64 ((IntKind.wrap .i64 ((IntKind.wrap .i64 (s6.2.1+1))+1))+1))+1)),(IntKind.wrap .i64 (s6.2.2+1)))))))) else(kx4 (s6.1,s6.2.1)))
def Zv(a1:(List zL))(a2:Int):Option (Int×(List zL)):=
 (iter (JO (JR a1)) FU (a1,a2,0))
def Q4(a1:(List zn))(t3:((List zn)×Int)):Option (Int×(List zn)):=
 (if t3.1.length=a1.length then(some (t3.2,t3.1)) else none)
def Q7(kx4:(((List zn)×Int)→Option (Int×(List zn))))(kb7:(((List zn)×Int×Int)→Option (Int×(List zn))))(s6:((List zn)×Int×Int)):Option (Int×(List zn)):=
 (if s6.2.2 < ((s6.1.length:Nat):Int) then((idx s6.1 s6.2.2).bind fun v9=>((idx (s6.1.set (Int.toNat s6.2.2) (zn.mk s6.2.1 v9.Value)) s6.2.2).bind fun v11=>(kb7 ((s6.1.set (Int.toNat s6.2.2) (zn.mk s6.2.1 v9.Value)).set (Int.toNat s6.2.2) (zn.mk v11.Key (IntKind.wrap .i64 (s6.2.1+1))),(IntKind.wrap .i64 ((IntKind.wrap .i64 (s6.2.1+1))+1)),(IntKind.wrap .i64 (s6.2.2+1)))))) else(kx4 (s6.1,s6.2.1)))
def Z3(a1:(List zn))(a2:Int):Option (Int×(List zn)):=
 (iter (Q7 (Q4 a1)) FU (a1,a2,0))
def JN(a1:(List zN))(t3:((List zN)×Int)):Option (Int×(List zN)):=
 (if t3.1.length=a1.length then(some (t3.2,t3.1)) else none)
def JL(kx4:(((List zN)×Int)→Option (Int×(List zN))))(kb7:(((List zN)×Int×Int)→Option (Int×(List zN))))(s6:((List zN)×Int×Int)):Option (Int×(List zN)):=
 (if s6.2.2 < ((s6.1.length:Nat):Int) then((idx s6.1 s6.2.2).bind fun v9=>((idx (s6.1.set (Int.toNat s6.2.2) (zN.mk s6.2.1 v9.Writes)) s6.2.2).bind fun v11=>((Z3 v11.Writes (IntKind.wrap .i64 (s6.2.1+1))).bind fun v13=>(kb7 ((s6.1.set (Int.toNat s6.2.2) (zN.mk s6.2.1 v9.Writes)).set (Int.toNat s6.2.2) (zN.mk v11.Tx v13.2),v13.1,(IntKind.wrap .i64 (s6.2.2+1))))))) else(kx4 (s6.1,s6.2.1)))
def ZF(a1:(List zN))(a2:Int):Option (Int×(List zN)):=
 (iter (JL (JN a1)) FU (a1,a2,0))
def YP(a1:(List Int))(t3:((List Int)×Int)):Option (Int×(List Int)):=
 (if t3.1.length=a1.length then(some (t3.2,t3.1)) else none)
def YG(kx4:(((List Int)×Int)→Option (Int×(List Int))))(kb7:(((List Int)×Int×Int)→Option (Int×(List Int))))(s6:((List Int)×Int×Int)):Option (Int×(List Int)):=
 (if s6.2.2 < ((s6.1.length:Nat):Int) then((idx s6.1 s6.2.2).bind fun v9=>(kb7 (s6.1.set (Int.toNat s6.2.2) s6.2.1,(IntKind.wrap .i64 (s6.2.1+1)),(IntKind.wrap .i64 (s6.2.2+1))))) else(kx4 (s6.1,s6.2.1)))
def yx(a1:(List Int))(a2:Int):Option (Int×(List Int)):=
 (iter (YG (YP a1)) FU (a1,a2,0))
def Zu(a1:zo)(a2:Int):Option (Int×zo):=
 ((j3 a1.Own a2).bind fun v3=>(if v3.2.length=a1.Own.length then((j3 a1.Frozen v3.1).bind fun v6=>(if v6.2.length=a1.Frozen.length then((Zt a1.Cells v6.1).bind fun v9=>(if v9.2.length=a1.Cells.length then((Zv a1.Locks v9.1).bind fun v12=>(if v12.2.length=a1.Locks.length then((ZF a1.Helds v12.1).bind fun v15=>(if v15.2.length=a1.Helds.length then((yx a1.Wounded v15.1).bind fun v18=>(if v18.2.length=a1.Wounded.length then((yx a1.Ended v18.1).bind fun v21=>(if v21.2.length=a1.Ended.length then(if v3.2.length=a1.Own.length then(if v6.2.length=a1.Frozen.length then(if v9.2.length=a1.Cells.length then(if v12.2.length=a1.Locks.length then(if v15.2.length=a1.Helds.length then(if v18.2.length=a1.Wounded.length then(if v21.2.length=a1.Ended.length then(some (v21.1,(zo.mk a1.Me v3.2 v6.2 v9.2 v12.2 v15.2 v18.2 v21.2 a1.Rank))) else none) else none) else none) else none) else none) else none) else none) else none)) else none)) else none)) else none)) else none)) else none)) else none))
def QZ(t3:Int):Option Int:=
 (some t3)
def Q9(a1:(List ze))(kx4:(Int→Option Int))(kb6:((Int×Int)→Option Int))(s5:(Int×Int)):Option Int:=
 (if s5.2 < (a1.length:Int) then((idx a1 s5.2).bind fun v8=>(if ¬v8.Lo=s5.1 then(some (-1)) else((idx a1 s5.2).bind fun v11=>(if ¬v11.Hi=(IntKind.wrap .i64 (s5.1+1)) then(some (-1)) else(kb6 ((IntKind.wrap .i64 ((IntKind.wrap .i64 (s5.1+1))+1)),(IntKind.wrap .i64 (s5.2+1)))))))) else(kx4 s5.1))
def j4(a1:(List ze))(a2:Int):Option Int:=
 (iter (Q9 a1 QZ) FU (a2,0))
def JS(t3:Int):Option Int:=
 (some t3)
def JM(a1:(List zn))(kx4:(Int→Option Int))(kb6:((Int×Int)→Option Int))(s5:(Int×Int)):Option Int:=
 (if s5.2 < (a1.length:Int) then((idx a1 s5.2).bind fun v8=>(if ¬v8.Key=s5.1 then(some (-1)) else((idx a1 s5.2).bind fun v11=>(if ¬v11.Value=(IntKind.wrap .i64 (s5.1+1)) then(some (-1)) else(kb6 ((IntKind.wrap .i64 ((IntKind.wrap .i64 (s5.1+1))+1)),(IntKind.wrap .i64 (s5.2+1)))))))) else(kx4 s5.1))
def ZD(a1:(List zn))(a2:Int):Option Int:=
 (iter (JM a1 JS) FU (a2,0))
def JE(t3:Int):Option Int:=
 (some t3)
def JD(a1:(List zL))(kx4:(Int→Option Int))(kb6:((Int×Int)→Option Int))(s5:(Int×Int)):Option Int:=
 (if s5.2 < (a1.length:Int) then((idx a1 s5.2).bind fun v8=>(if ¬v8.Tx=s5.1 then(some (-1)) else((idx a1 s5.2).bind fun v11=>(if ¬v11.Lo=(IntKind.wrap .i64 (s5.1+1)) then(some (-1)) else((idx a1 s5.2).bind fun v14=>(if ¬v14.Hi=(IntKind.wrap .i64 ((IntKind.wrap .i64 (s5.1+1))+1)) then(some (-1)) else((idx a1 s5.2).bind fun v17=>(if ¬v17.Mode=(IntKind.wrap .i64 ((IntKind.wrap .i64 ((IntKind.wrap .i64 (s5.1+1))+1))+1)) then(some (-1)) else(kb6 ((IntKind.wrap .i64 ((IntKind.wrap .i64 ((IntKind.wrap .i64 ((IntKind.wrap .i64 (s5.1+1))+1))+1))+1)),(IntKind.wrap .i64 (s5.2+1)))))))))))) else(kx4 s5.1))
def ZA(a1:(List zL))(a2:Int):Option Int:=
 (iter (JD a1 JE) FU (a2,0))
def QX(t3:Int):Option Int:=
 (some t3)
def Je(a1:(List zn))(kx4:(Int→Option Int))(kb6:((Int×Int)→Option Int))(s5:(Int×Int)):Option Int:=
 (if s5.2 < (a1.length:Int) then((idx a1 s5.2).bind fun v8=>(if ¬v8.Key=s5.1 then(some (-1)) else((idx a1 s5.2).bind fun v11=>(if ¬v11.Value=(IntKind.wrap .i64 (s5.1+1)) then(some (-1)) else(kb6 ((IntKind.wrap .i64 ((IntKind.wrap .i64 (s5.1+1))+1)),(IntKind.wrap .i64 (s5.2+1)))))))) else(kx4 s5.1))
def Z7(a1:(List zn))(a2:Int):Option Int:=
 (iter (Je a1 QX) FU (a2,0))
def JI(t3:Int):Option Int:=
 (some t3)
def JP(a1:(List zN))(kx4:(Int→Option Int))(kb6:((Int×Int)→Option Int))(s5:(Int×Int)):Option Int:=
 (if s5.2 < (a1.length:Int) then((idx a1 s5.2).bind fun v8=>(if ¬v8.Tx=s5.1 then(some (-1)) else((idx a1 s5.2).bind fun v11=>((Z7 v11.Writes (IntKind.wrap .i64 (s5.1+1))).bind fun v13=>(if v13 < 0 then(some (-1)) else(kb6 (v13,(IntKind.wrap .i64 (s5.2+1))))))))) else(kx4 s5.1))
def Zs(a1:(List zN))(a2:Int):Option Int:=
 (iter (JP a1 JI) FU (a2,0))
def Y4(t3:Int):Option Int:=
 (some t3)
def YZ(a1:(List Int))(kx4:(Int→Option Int))(kb6:((Int×Int)→Option Int))(s5:(Int×Int)):Option Int:=
 (if s5.2 < (a1.length:Int) then((idx a1 s5.2).bind fun v8=>(if ¬v8=s5.1 then(some (-1)) else(kb6 ((IntKind.wrap .i64 (s5.1+1)),(IntKind.wrap .i64 (s5.2+1)))))) else(kx4 s5.1))
def yC(a1:(List Int))(a2:Int):Option Int:=
 (iter (YZ a1 Y4) FU (a2,0))
def Zw(a1:zo)(a2:Int):Option Int:=
 ((j4 a1.Own a2).bind fun v3=>(if v3 < 0 then(some (-1)) else((j4 a1.Frozen v3).bind fun v6=>(if v6 < 0 then(some (-1)) else((ZD a1.Cells v6).bind fun v9=>(if v9 < 0 then(some (-1)) else((ZA a1.Locks v9).bind fun v12=>(if v12 < 0 then(some (-1)) else((Zs a1.Helds v12).bind fun v15=>(if v15 < 0 then(some (-1)) else((yC a1.Wounded v15).bind fun v18=>(if v18 < 0 then(some (-1)) else((yC a1.Ended v18).bind fun v21=>(if v21 < 0 then(some (-1)) else(some v21)))))))))))))))
def jX(v17:(zo×Int))(v39:(Int×zo))(t58:Bool):Option Bool:=
 (if t58=true then(some false) else((Zw (zo.mk v17.1.Me v39.2.Own v39.2.Frozen v39.2.Cells v39.2.Locks v39.2.Helds v39.2.Wounded v39.2.Ended v17.1.Rank) 1).bind fun v61=>(if v61 < 0 then(some false) else(if ¬v61=v39.1 then(some false) else(some true)))))
def jv(v17:(zo×Int))(a1:zo)(a3:ze)(a2:Int)(v11:(zo×Int))(t36:Bool):Option Bool:=
 (if t36=true then(some false) else((Zu v17.1 1).bind fun v39=>(if v39.2.Own.length=v17.1.Own.length then(if v39.2.Frozen.length=v17.1.Frozen.length then(if v39.2.Cells.length=v17.1.Cells.length then(if v39.2.Locks.length=v17.1.Locks.length then(if v39.2.Helds.length=v17.1.Helds.length then(if v39.2.Wounded.length=v17.1.Wounded.length then(if v39.2.Ended.length=v17.1.Ended.length then((Zw (zo.mk v17.1.Me v39.2.Own v39.2.Frozen v39.2.Cells v39.2.Locks v39.2.Helds v39.2.Wounded v39.2.Ended v17.1.Rank) 1).bind fun v48=>(if v48 < 0 then(some false) else(if ¬v48=v39.1 then(some false) else((yQ a1).bind fun v52=>((yU a3).bind fun v54=>((Zz v52 a2 v54).bind fun v56=>((yV v56.1 v11.1).bind fun v65=>(if v65=true then((jX v17 v39) (decide (¬v56.2=v11.2))) else((jX v17 v39) true))))))))) else none) else none) else none) else none) else none) else none) else none)))
def jW(a1:zo)(v13:zo)(v17:(zo×Int))(a3:ze)(a2:Int)(v11:(zo×Int))(t19:Bool):Option Bool:=
 (if t19=true then(some false) else((yQ a1).bind fun v22=>((yV v13 v22).bind fun v24=>(if v24=true then((Zu v13 1).bind fun v27=>(if v27.2.Own.length=v13.Own.length then(if v27.2.Frozen.length=v13.Frozen.length then(if v27.2.Cells.length=v13.Cells.length then(if v27.2.Locks.length=v13.Locks.length then(if v27.2.Helds.length=v13.Helds.length then(if v27.2.Wounded.length=v13.Wounded.length then(if v27.2.Ended.length=v13.Ended.length then(if v27.1 < 0 then((jv v17 a1 a3 a2 v11) true) else((yV v17.1 v11.1).bind fun v69=>(if v69=true then((jv v17 a1 a3 a2 v11) (decide (¬v17.2=v11.2))) else((jv v17 a1 a3 a2 v11) true)))) else none) else none) else none) else none) else none) else none) else none)) else(some false)))))
def yZ(a1:zo)(a2:Int)(a3:ze):Option Bool:=
 ((J9 a1 1048576).bind fun v4=>(if v4 < 0 then(some true) else((yQ a1).bind fun v7=>((yU a3).bind fun v9=>((QI v7 a2 v9).bind fun v11=>((yQ a1).bind fun v13=>((yU a3).bind fun v15=>((Zz v13 a2 v15).bind fun v17=>((yV v17.1 v11.1).bind fun v72=>(if v72=true then((jW a1 v13 v17 a3 a2 v11) (decide (¬v17.2=v11.2))) else((jW a1 v13 v17 a3 a2 v11) true)))))))))))
abbrev qj(x:zL):List C:=[(dI x.Tx),(dI x.Lo),(dI x.Hi),(dI x.Mode)]
abbrev jQ(x:zN):List C:=[(dI x.Tx),(.d (.sl 2 (List.map zj x.Writes)))]
abbrev zF(x:zo):List C:=[(dI x.Me),(.d (.sl 2 (List.map zd x.Own))),(.d (.sl 2 (List.map zd x.Frozen))),(.d (.sl 2 (List.map zj x.Cells))),(.d (.sl 4 (List.map zp x.Locks))),(.d (.sl 2 (List.map zB x.Helds))),(.d (.sl 1 (List.map zt x.Wounded))),(.d (.sl 1 (List.map zt x.Ended))),(dI x.Rank)]
end Go.AW
