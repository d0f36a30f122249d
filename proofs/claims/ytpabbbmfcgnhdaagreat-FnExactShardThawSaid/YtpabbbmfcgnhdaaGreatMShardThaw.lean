/- Plain functions that say what functions of the program compute. Conditions: none. -/
import Derived.Test.YtpabbbmfcgnhdaaGreatYs
import Derived.Test.YtpabbbmfcgnhdaaGreatYi
set_option linter.unusedVariables false
set_option linter.unusedSimpArgs false
set_option maxRecDepth 100000
namespace Go.AW
structure ze where
 Lo:Int
 Hi:Int
deriving DecidableEq
def Yk(x:ze):Prop:=inK .i64 x.Lo∧inK .i64 x.Hi
structure zu where
 Key:Int
 Value:Int
deriving DecidableEq
def xd(x:zu):Prop:=inK .i64 x.Key∧inK .i64 x.Value
structure zK where
 Tx:Int
 Lo:Int
 Hi:Int
 Mode:Int
deriving DecidableEq
def zbi(x:zK):Prop:=inK .i64 x.Tx∧inK .i64 x.Lo∧inK .i64 x.Hi∧inK .i64 x.Mode
structure zL where
 Tx:Int
 Writes:(List zu)
deriving DecidableEq
def Xx(x:zL):Prop:=inK .i64 x.Tx∧okS xd x.Writes
structure zn where
 Me:Int
 Own:(List ze)
 Frozen:(List ze)
 Cells:(List zu)
 Locks:(List zK)
 Helds:(List zL)
 Wounded:(List Int)
 Ended:(List Int)
 Rank:Int
deriving DecidableEq
def KR(x:zn):Prop:=inK .i64 x.Me∧okS Yk x.Own∧okS Yk x.Frozen∧okS xd x.Cells∧okS zbi x.Locks∧okS Xx x.Helds∧okS (inK .i64) x.Wounded∧okS (inK .i64) x.Ended∧inK .i64 x.Rank
abbrev zd(x:ze):List D:=[(.int .i64 x.Lo),(.int .i64 x.Hi)]
abbrev zj(x:zu):List D:=[(.int .i64 x.Key),(.int .i64 x.Value)]
abbrev zp(x:zK):List D:=[(.int .i64 x.Tx),(.int .i64 x.Lo),(.int .i64 x.Hi),(.int .i64 x.Mode)]
abbrev zA(x:zL):List D:=[(.int .i64 x.Tx),(.sl 2 (List.map zj x.Writes))]
abbrev zt(x:Int):List D:=[(.int .i64 x)]
abbrev zR(x:zn):List D:=[(.int .i64 x.Me),(.sl 2 (List.map zd x.Own)),(.sl 2 (List.map zd x.Frozen)),(.sl 2 (List.map zj x.Cells)),(.sl 4 (List.map zp x.Locks)),(.sl 2 (List.map zA x.Helds)),(.sl 1 (List.map zt x.Wounded)),(.sl 1 (List.map zt x.Ended)),(.int .i64 x.Rank)]
abbrev Qf(x:Bool):List D:=[(.bool x)]
abbrev ZM(x:(List Int)):List D:=[(.sl 1 (List.map zt x))]
abbrev Qc(x:(List ze)):List D:=[(.sl 2 (List.map zd x))]
abbrev zcv(x:(List zu)):List D:=[(.sl 2 (List.map zj x))]
abbrev zha(x:(List zL)):List D:=[(.sl 2 (List.map zA x))]
abbrev zgY(x:(List zK)):List D:=[(.sl 4 (List.map zp x))]
def Zv(a1:(List ze))(a2:Int):Option Int:=
 (if (IntKind.wrap .i64 (a2 - (a1.length:Int))) < 0 then(some (-1)) else(some (IntKind.wrap .i64 (a2 - (a1.length:Int)))))
def JQ(a1:(List zu))(a2:Int):Option Int:=
 (if (IntKind.wrap .i64 (a2 - (a1.length:Int))) < 0 then(some (-1)) else(some (IntKind.wrap .i64 (a2 - (a1.length:Int)))))
def Yb(a1:(List zK))(a2:Int):Option Int:=
 (if (IntKind.wrap .i64 (a2 - (a1.length:Int))) < 0 then(some (-1)) else(some (IntKind.wrap .i64 (a2 - (a1.length:Int)))))
def QW(a1:(List zu))(a2:Int):Option Int:=
 (if (IntKind.wrap .i64 (a2 - (a1.length:Int))) < 0 then(some (-1)) else(some (IntKind.wrap .i64 (a2 - (a1.length:Int)))))
def xf(a1:zL)(a2:Int):Option Int:=
 ((QW a1.Writes a2).bind fun v3=>(if v3 < 0 then(some (-1)) else(some v3)))
def xx(t4:Int):Option Int:=
 (some t4)
def xp(a1:(List zL))(kx5:(Int→Option Int))(kb7:((Int×Int)→Option Int))(s6:(Int×Int)):Option Int:=
 (if s6.2 < (a1.length:Int) then((idx a1 s6.2).bind fun v9=>((xf v9 s6.1).bind fun v11=>(if v11 < 0 then(some (-1)) else(kb7 (v11,(IntKind.wrap .i64 (s6.2+1))))))) else(kx5 s6.1))
def J0(a1:(List zL))(a2:Int):Option Int:=
 (if (IntKind.wrap .i64 (a2 - (a1.length:Int))) < 0 then(some (-1)) else(iter (xp a1 xx) FU ((IntKind.wrap .i64 (a2 - (a1.length:Int))),0)))
def Q8(a1:(List Int))(a2:Int):Option Int:=
 (if (IntKind.wrap .i64 (a2 - (a1.length:Int))) < 0 then(some (-1)) else(some (IntKind.wrap .i64 (a2 - (a1.length:Int)))))
def Js(a1:zn)(a2:Int):Option Int:=
 ((Zv a1.Own a2).bind fun v3=>(if v3 < 0 then(some (-1)) else((Zv a1.Frozen v3).bind fun v6=>(if v6 < 0 then(some (-1)) else((JQ a1.Cells v6).bind fun v9=>(if v9 < 0 then(some (-1)) else((Yb a1.Locks v9).bind fun v12=>(if v12 < 0 then(some (-1)) else((J0 a1.Helds v12).bind fun v15=>(if v15 < 0 then(some (-1)) else((Q8 a1.Wounded v15).bind fun v18=>(if v18 < 0 then(some (-1)) else((Q8 a1.Ended v18).bind fun v21=>(if v21 < 0 then(some (-1)) else(some v21)))))))))))))))
def yB(a1:ze):Option ze:=
 (some a1)
def Yy(t3:(List ze)):Option (List ze):=
 (some t3)
def YB(a1:(List ze))(kx4:((List ze)→Option (List ze)))(kb6:(((List ze)×Int)→Option (List ze)))(s5:((List ze)×Int)):Option (List ze):=
 (if s5.2 < (a1.length:Int) then((idx a1 s5.2).bind fun v8=>((yB v8).bind fun v10=>((idx s5.1 s5.2).bind fun v12=>(kb6 (s5.1.set (Int.toNat s5.2) v10,(IntKind.wrap .i64 (s5.2+1))))))) else(kx4 s5.1))
def Zw(a1:(List ze)):Option (List ze):=
 (if 0≤(a1.length:Int)∧(a1.length:Int)≤2147483648 then(iter (YB a1 Yy) FU ((List.replicate (Int.toNat (a1.length:Int)) (ze.mk 0 0)),0)) else none)
def Xi(a1:zu):Option zu:=
 (some a1)
def xC(t3:(List zu)):Option (List zu):=
 (some t3)
def xm(a1:(List zu))(kx4:((List zu)→Option (List zu)))(kb6:(((List zu)×Int)→Option (List zu)))(s5:((List zu)×Int)):Option (List zu):=
 (if s5.2 < (a1.length:Int) then((idx a1 s5.2).bind fun v8=>((Xi v8).bind fun v10=>((idx s5.1 s5.2).bind fun v12=>(kb6 (s5.1.set (Int.toNat s5.2) v10,(IntKind.wrap .i64 (s5.2+1))))))) else(kx4 s5.1))
def JW(a1:(List zu)):Option (List zu):=
 (if 0≤(a1.length:Int)∧(a1.length:Int)≤2147483648 then(iter (xm a1 xC) FU ((List.replicate (Int.toNat (a1.length:Int)) (zu.mk 0 0)),0)) else none)
def Xo(a1:zK):Option zK:=
 (some a1)
def xw(t3:(List zK)):Option (List zK):=
 (some t3)
def xu(a1:(List zK))(kx4:((List zK)→Option (List zK)))(kb6:(((List zK)×Int)→Option (List zK)))(s5:((List zK)×Int)):Option (List zK):=
 (if s5.2 < (a1.length:Int) then((idx a1 s5.2).bind fun v8=>((Xo v8).bind fun v10=>((idx s5.1 s5.2).bind fun v12=>(kb6 (s5.1.set (Int.toNat s5.2) v10,(IntKind.wrap .i64 (s5.2+1))))))) else(kx4 s5.1))
def JI(a1:(List zK)):Option (List zK):=
 (if 0≤(a1.length:Int)∧(a1.length:Int)≤2147483648 then(iter (xu a1 xw) FU ((List.replicate (Int.toNat (a1.length:Int)) (zK.mk 0 0 0 0)),0)) else none)
def xY(a1:zu):Option zu:=
 (some a1)
def Yu(t3:(List zu)):Option (List zu):=
 (some t3)
def YE(a1:(List zu))(kx4:((List zu)→Option (List zu)))(kb6:(((List zu)×Int)→Option (List zu)))(s5:((List zu)×Int)):Option (List zu):=
 (if s5.2 < (a1.length:Int) then((idx a1 s5.2).bind fun v8=>((xY v8).bind fun v10=>((idx s5.1 s5.2).bind fun v12=>(kb6 (s5.1.set (Int.toNat s5.2) v10,(IntKind.wrap .i64 (s5.2+1))))))) else(kx4 s5.1))
def QU(a1:(List zu)):Option (List zu):=
 (if 0≤(a1.length:Int)∧(a1.length:Int)≤2147483648 then(iter (YE a1 Yu) FU ((List.replicate (Int.toNat (a1.length:Int)) (zu.mk 0 0)),0)) else none)
def xb(a1:zL):Option zL:=
 ((QU a1.Writes).bind fun v2=>(some (zL.mk a1.Tx v2)))
def xv(t3:(List zL)):Option (List zL):=
 (some t3)
def xh(a1:(List zL))(kx4:((List zL)→Option (List zL)))(kb6:(((List zL)×Int)→Option (List zL)))(s5:((List zL)×Int)):Option (List zL):=
 (if s5.2 < (a1.length:Int) then((idx a1 s5.2).bind fun v8=>((xb v8).bind fun v10=>((idx s5.1 s5.2).bind fun v12=>(kb6 (s5.1.set (Int.toNat s5.2) v10,(IntKind.wrap .i64 (s5.2+1))))))) else(kx4 s5.1))
def J3(a1:(List zL)):Option (List zL):=
 (if 0≤(a1.length:Int)∧(a1.length:Int)≤2147483648 then(iter (xh a1 xv) FU ((List.replicate (Int.toNat (a1.length:Int)) (zL.mk 0 ([]:(List zu)))),0)) else none)
def ku(t3:(List Int)):Option (List Int):=
 (some t3)
def ki(a1:(List Int))(kx4:((List Int)→Option (List Int)))(kb6:(((List Int)×Int)→Option (List Int)))(s5:((List Int)×Int)):Option (List Int):=
 (if s5.2 < (a1.length:Int) then((idx a1 s5.2).bind fun v8=>((idx s5.1 s5.2).bind fun v10=>(kb6 (s5.1.set (Int.toNat s5.2) v8,(IntKind.wrap .i64 (s5.2+1)))))) else(kx4 s5.1))
def Q7(a1:(List Int)):Option (List Int):=
 (if 0≤(a1.length:Int)∧(a1.length:Int)≤2147483648 then(iter (ki a1 ku) FU ((List.replicate (Int.toNat (a1.length:Int)) 0),0)) else none)
def yt(a1:zn):Option zn:=
 ((Zw a1.Own).bind fun v2=>((Zw a1.Frozen).bind fun v4=>((JW a1.Cells).bind fun v6=>((JI a1.Locks).bind fun v8=>((J3 a1.Helds).bind fun v10=>((Q7 a1.Wounded).bind fun v12=>((Q7 a1.Ended).bind fun v14=>(some (zn.mk a1.Me v2 v4 v6 v8 v10 v12 v14 a1.Rank)))))))))
def yy(a1:Int)(a2:Int)(a3:Int):Option Bool:=
 (if a2≤a1 then(some (decide (a1≤a3))) else(some false))
def qJ(a1:ze):Option Bool:=
 (if 0≤a1.Lo then(if a1.Lo < a1.Hi then(some (decide (a1.Hi≤1000))) else(some false)) else(some false))
def kW(t3:Unit):Option Bool:=
 (some true)
def y7(kb6:(Int→Option Bool))(s5:Int)(t8:Bool):Option Bool:=
 (if t8=true then(some false) else(kb6 (IntKind.wrap .i64 (s5+1))))
def YR(a1:(List ze))(kx4:(Unit→Option Bool))(kb6:(Int→Option Bool))(s5:Int):Option Bool:=
 (if s5 < (a1.length:Int) then((idx a1 s5).bind fun v11=>((qJ v11).bind fun v13=>(if v13=true then(if 0 < s5 then((idx a1 s5).bind fun v17=>((idx a1 (IntKind.wrap .i64 (s5 - 1))).bind fun v19=>((y7 kb6 s5) (decide (v17.Lo < v19.Hi))))) else((y7 kb6 s5) false)) else((y7 kb6 s5) true)))) else(kx4 ()))
def yk(a1:(List ze)):Option Bool:=
 (if 16 < (a1.length:Int) then(some false) else(iter (YR a1 kW) FU 0))
def Q9(a1:Int):Option Bool:=
 ((yy a1 0 999).bind fun v2=>(some v2))
def JO(a1:Int):Option Bool:=
 ((yy a1 0 1000000000).bind fun v2=>(some v2))
def Xz(t3:Unit):Option Bool:=
 (some true)
def yK(kb6:(Int→Option Bool))(s5:Int)(t8:Bool):Option Bool:=
 (if t8=true then(some false) else(kb6 (IntKind.wrap .i64 (s5+1))))
def xj(a1:(List zu))(kx4:(Unit→Option Bool))(kb6:(Int→Option Bool))(s5:Int):Option Bool:=
 (if s5 < (a1.length:Int) then((idx a1 s5).bind fun v11=>((Q9 v11.Key).bind fun v13=>(if v13=true then((idx a1 s5).bind fun v16=>((JO v16.Value).bind fun v18=>(if v18=true then(if 0 < s5 then((idx a1 (IntKind.wrap .i64 (s5 - 1))).bind fun v22=>((idx a1 s5).bind fun v24=>((yK kb6 s5) (decide (v24.Key≤v22.Key))))) else((yK kb6 s5) false)) else((yK kb6 s5) true)))) else((yK kb6 s5) true)))) else(kx4 ()))
def Qj(a1:(List zu)):Option Bool:=
 (if 60 < (a1.length:Int) then(some false) else(iter (xj a1 Xz) FU 0))
def QE(a1:Int):Option Bool:=
 ((yy a1 1 60).bind fun v2=>(some v2))
def jo(a1:zK):Option ze:=
 (some (ze.mk a1.Lo a1.Hi))
def JG(a1:Int):Option Bool:=
 (if a1=1 then(some true) else(some (decide (a1=2))))
def kg(a1:Int)(a2:Int):Option Int:=
 (if a2 < a1 then(some a1) else(some a2))
def ke(a1:Int)(a2:Int):Option Int:=
 (if a1 < a2 then(some a1) else(some a2))
def yG(v3:Int)(v5:Int)(t7:Bool):Option (ze×Bool):=
 (if t7=true then(some ((ze.mk 0 0),false)) else(some ((ze.mk v3 v5),true)))
def Zd(a1:ze)(a2:ze):Option (ze×Bool):=
 ((kg a1.Lo a2.Lo).bind fun v3=>((ke a1.Hi a2.Hi).bind fun v5=>((qJ a1).bind fun v10=>(if v10=true then((qJ a2).bind fun v13=>(if v13=true then((qJ (ze.mk v3 v5)).bind fun v16=>((yG v3 v5) (!v16))) else((yG v3 v5) true))) else((yG v3 v5) true)))))
def QR(a1:zK)(a2:zK):Option Bool:=
 ((jo a1).bind fun v3=>((jo a2).bind fun v5=>((Zd v3 v5).bind fun v7=>(if v7.2=true then(if ¬a1.Tx=a2.Tx then(if a1.Mode=2 then(some true) else(some (decide (a2.Mode=2)))) else(some false)) else(some false)))))
def XE(t3:Unit):Option Bool:=
 (some true)
def yN(kb6:(Int→Option Bool))(s5:Int)(t8:Unit):Option Bool:=
 (kb6 (IntKind.wrap .i64 (s5+1)))
def Yf(s5:Int)(a1:(List zK))(kx9:(Unit→Option Bool))(kb14:(Int→Option Bool))(s13:Int):Option Bool:=
 (if s13 < s5 then((idx a1 s5).bind fun v16=>((idx a1 s13).bind fun v18=>((QR v16 v18).bind fun v20=>(if v20=true then(some false) else(kb14 (IntKind.wrap .i64 (s13+1))))))) else(kx9 ()))
def Zk(s5:Int)(a1:(List zK))(kx9:(Unit→Option Bool))(t10:Bool):Option Bool:=
 (if t10=true then(some false) else(iter (Yf s5 a1 kx9) FU 0))
def xi(a1:(List zK))(kx4:(Unit→Option Bool))(kb6:(Int→Option Bool))(s5:Int):Option Bool:=
 (if s5 < (a1.length:Int) then((idx a1 s5).bind fun v23=>((QE v23.Tx).bind fun v25=>(if v25=true then((idx a1 s5).bind fun v28=>((jo v28).bind fun v30=>((qJ v30).bind fun v32=>(if v32=true then((idx a1 s5).bind fun v35=>((JG v35.Mode).bind fun v37=>((Zk s5 a1 (yN kb6 s5)) (!v37)))) else((Zk s5 a1 (yN kb6 s5)) true))))) else((Zk s5 a1 (yN kb6 s5)) true)))) else(kx4 ()))
def JH(a1:(List zK)):Option Bool:=
 (if 40 < (a1.length:Int) then(some false) else(iter (xi a1 XE) FU 0))
def Kc(t2:Unit):Option Bool:=
 (some true)
def Z1(kb5:(Int→Option Bool))(s4:Int)(t7:Bool):Option Bool:=
 (if t7=true then(some false) else(kb5 (IntKind.wrap .i64 (s4+1))))
def ks(a1:(List Int))(kx3:(Unit→Option Bool))(kb5:(Int→Option Bool))(s4:Int):Option Bool:=
 (if s4 < (a1.length:Int) then((idx a1 s4).bind fun v10=>((QE v10).bind fun v12=>(if v12=true then(if 0 < s4 then((idx a1 (IntKind.wrap .i64 (s4 - 1))).bind fun v16=>((idx a1 s4).bind fun v18=>((Z1 kb5 s4) (decide (v18≤v16))))) else((Z1 kb5 s4) false)) else((Z1 kb5 s4) true)))) else(kx3 ()))
def Q4(a1:(List Int)):Option Bool:=
 (iter (ks a1 Kc) FU 0)
def Qz(a2:ze)(t6:Int):Option Bool:=
 (some (decide (a2.Hi≤t6)))
def yV(a1:(List ze))(s8:(Int×Int))(kb9:((Int×Int)→Option Bool))(t11:Bool):Option Bool:=
 (if t11=true then((idx a1 s8.2).bind fun v14=>(kb9 (v14.Hi,(IntKind.wrap .i64 (s8.2+1))))) else(kb9 (s8.1,(IntKind.wrap .i64 (s8.2+1)))))
def QI(a1:(List ze))(kx7:(Int→Option Bool))(kb9:((Int×Int)→Option Bool))(s8:(Int×Int)):Option Bool:=
 (if s8.2 < (a1.length:Int) then((idx a1 s8.2).bind fun v16=>(if v16.Lo≤s8.1 then((idx a1 s8.2).bind fun v19=>((yV a1 s8 kb9) (decide (s8.1 < v19.Hi)))) else((yV a1 s8 kb9) false))) else(kx7 s8.1))
def j0(a1:(List ze))(a2:ze)(t3:Bool):Option Bool:=
 (if t3=true then(some false) else(iter (QI a1 (Qz a2)) FU (a2.Lo,0)))
def jt(a1:(List ze))(a2:ze):Option Bool:=
 ((yk a1).bind fun v21=>(if v21=true then((qJ a2).bind fun v24=>((j0 a1 a2) (!v24))) else((j0 a1 a2) true)))
def Y5(a1:Int):Option ze:=
 (some (ze.mk a1 (IntKind.wrap .i64 (a1+1))))
def kC(t3:Unit):Option Bool:=
 (some false)
def kD(a1:(List Int))(a2:Int)(kx4:(Unit→Option Bool))(kb6:(Int→Option Bool))(s5:Int):Option Bool:=
 (if s5 < (a1.length:Int) then((idx a1 s5).bind fun v8=>(if v8=a2 then(some true) else(kb6 (IntKind.wrap .i64 (s5+1))))) else(kx4 ()))
def yq(a1:(List Int))(a2:Int):Option Bool:=
 (iter (kD a1 a2 kC) FU 0)
def kO(t3:Unit):Option Bool:=
 (some true)
def ym(kb6:(Int→Option Bool))(s5:Int)(t8:Bool):Option Bool:=
 (if t8=true then(some false) else(kb6 (IntKind.wrap .i64 (s5+1))))
def Yl(a1:(List zu))(kx4:(Unit→Option Bool))(kb6:(Int→Option Bool))(s5:Int):Option Bool:=
 (if s5 < (a1.length:Int) then((idx a1 s5).bind fun v11=>((Q9 v11.Key).bind fun v13=>(if v13=true then((idx a1 s5).bind fun v16=>((yy v16.Value (-1) 1000000000).bind fun v18=>(if v18=true then(if 0 < s5 then((idx a1 (IntKind.wrap .i64 (s5 - 1))).bind fun v22=>((idx a1 s5).bind fun v24=>((ym kb6 s5) (decide (v24.Key≤v22.Key))))) else((ym kb6 s5) false)) else((ym kb6 s5) true)))) else((ym kb6 s5) true)))) else(kx4 ()))
def yR(a1:(List zu)):Option Bool:=
 (if 60 < (a1.length:Int) then(some false) else(iter (Yl a1 kO) FU 0))
def JX(a1:ze)(a2:ze):Option Bool:=
 ((qJ a1).bind fun v3=>(if v3=true then((qJ a2).bind fun v6=>(if v6=true then(if a2.Lo≤a1.Lo then(some (decide (a1.Hi≤a2.Hi))) else(some false)) else(some false))) else(some false)))
def kX(t5:Unit):Option Bool:=
 (some false)
def yE(kb8:(Int→Option Bool))(s7:Int)(t10:Bool):Option Bool:=
 (if t10=true then(some true) else(kb8 (IntKind.wrap .i64 (s7+1))))
def Yx(a1:(List zK))(a2:Int)(a3:ze)(a4:Int)(kx6:(Unit→Option Bool))(kb8:(Int→Option Bool))(s7:Int):Option Bool:=
 (if s7 < (a1.length:Int) then((idx a1 s7).bind fun v13=>(if v13.Tx=a2 then((idx a1 s7).bind fun v16=>((jo v16).bind fun v18=>((JX a3 v18).bind fun v20=>(if v20=true then((idx a1 s7).bind fun v23=>((yE kb8 s7) (decide (a4≤v23.Mode)))) else((yE kb8 s7) false))))) else((yE kb8 s7) false))) else(kx6 ()))
def Q0(a1:(List zK))(a2:Int)(a3:ze)(a4:Int):Option Bool:=
 (iter (Yx a1 a2 a3 a4 kX) FU 0)
def xJ(t2:Unit):Option Bool:=
 (some true)
def qN(kb5:(Int→Option Bool))(s4:Int)(t7:Unit):Option Bool:=
 (kb5 (IntKind.wrap .i64 (s4+1)))
def yS(kx8:(Unit→Option Bool))(t16:Bool):Option Bool:=
 (if t16=true then(some false) else(kx8 ()))
def ZR(a1:zn)(v9:zL)(kx8:(Unit→Option Bool))(t14:Unit):Option Bool:=
 ((yq a1.Wounded v9.Tx).bind fun v19=>(if v19=true then((yS kx8) true) else((yq a1.Ended v9.Tx).bind fun v22=>((yS kx8) v22))))
def ZQ(v9:zL)(a1:zn)(kx15:(Unit→Option Bool))(kb25:(Int→Option Bool))(s24:Int):Option Bool:=
 (if s24 < (v9.Writes.length:Int) then((idx v9.Writes s24).bind fun v27=>((Y5 v27.Key).bind fun v29=>((Q0 a1.Locks v9.Tx v29 2).bind fun v31=>(if v31=true then(kb25 (IntKind.wrap .i64 (s24+1))) else(some false))))) else(kx15 ()))
def qV(v9:zL)(a1:zn)(kx8:(Unit→Option Bool))(t11:Bool):Option Bool:=
 (if t11=true then(some false) else(iter (ZQ v9 a1 (ZR a1 v9 kx8)) FU 0))
def QL(a1:zn)(kx3:(Unit→Option Bool))(kb5:(Int→Option Bool))(s4:Int):Option Bool:=
 (if s4 < (a1.Helds.length:Int) then((idx a1.Helds s4).bind fun v9=>((QE v9.Tx).bind fun v34=>(if v34=true then(if 0 < s4 then((idx a1.Helds (IntKind.wrap .i64 (s4 - 1))).bind fun v38=>(if v9.Tx≤v38.Tx then((qV v9 a1 (qN kb5 s4)) true) else((yR v9.Writes).bind fun v41=>((qV v9 a1 (qN kb5 s4)) (!v41))))) else((yR v9.Writes).bind fun v43=>((qV v9 a1 (qN kb5 s4)) (!v43)))) else((qV v9 a1 (qN kb5 s4)) true)))) else(kx3 ()))
def ZH(a1:zn):Option Bool:=
 (iter (QL a1 xJ) FU 0)
def Kg(t3:Unit):Option Int:=
 (some (-1))
def kE(a1:(List zu))(a2:Int)(kx4:(Unit→Option Int))(kb6:(Int→Option Int))(s5:Int):Option Int:=
 (if s5 < (a1.length:Int) then((idx a1 s5).bind fun v8=>(if v8.Key=a2 then((idx a1 s5).bind fun v11=>(some v11.Value)) else(kb6 (IntKind.wrap .i64 (s5+1))))) else(kx4 ()))
def Y2(a1:(List zu))(a2:Int):Option Int:=
 (iter (kE a1 a2 Kg) FU 0)
def Ys(t6:Int):Option Int:=
 (some t6)
def Zz(kb9:((Int×Int)→Option Int))(s8:(Int×Int))(t11:Bool):Option Int:=
 (if t11=true then(kb9 ((IntKind.wrap .i64 (s8.1+1)),(IntKind.wrap .i64 (s8.2+1)))) else(kb9 (s8.1,(IntKind.wrap .i64 (s8.2+1)))))
def Ye(a2:(List zu))(a1:(List zu))(kx7:(Int→Option Int))(kb9:((Int×Int)→Option Int))(s8:(Int×Int)):Option Int:=
 (if s8.2 < (a2.length:Int) then((idx a2 s8.2).bind fun v14=>(if 0≤v14.Value then((idx a2 s8.2).bind fun v17=>((Y2 a1 v17.Key).bind fun v19=>((Zz kb9 s8) (decide (v19 < 0))))) else((Zz kb9 s8) false))) else(kx7 s8.1))
def Qn(a2:(List zu))(a1:(List zu))(t3:Bool):Option Int:=
 (if t3=true then(some (-1)) else(iter (Ye a2 a1 Ys) FU (0,0)))
def QT(a1:(List zu))(a2:(List zu)):Option Int:=
 ((Qj a1).bind fun v21=>(if v21=true then((yR a2).bind fun v24=>((Qn a2 a1) (!v24))) else((Qn a2 a1) true)))
def kK(t2:Int):Option Int:=
 (some t2)
def kG(a1:zn)(kx3:(Int→Option Int))(kb5:((Int×Int)→Option Int))(s4:(Int×Int)):Option Int:=
 (if s4.2 < (a1.Helds.length:Int) then((idx a1.Helds s4.2).bind fun v7=>((QT a1.Cells v7.Writes).bind fun v9=>(kb5 ((IntKind.wrap .i64 (s4.1+v9)),(IntKind.wrap .i64 (s4.2+1)))))) else(kx3 s4.1))
def Y0(a1:zn):Option Int:=
 (iter (kG a1 kK) FU (0,0))
def ZY(a1:zn)(t14:Unit):Option Bool:=
 ((ZH a1).bind fun v16=>(if v16=true then((Y0 a1).bind fun v19=>(some (decide ((IntKind.wrap .i64 ((a1.Cells.length:Int)+v19))≤60)))) else(some false)))
def YL(a1:zn)(kx15:(Unit→Option Bool))(kb22:(Int→Option Bool))(s21:Int):Option Bool:=
 (if s21 < (a1.Wounded.length:Int) then((idx a1.Wounded s21).bind fun v24=>((yq a1.Ended v24).bind fun v26=>(if v26=true then(some false) else(kb22 (IntKind.wrap .i64 (s21+1)))))) else(kx15 ()))
def Z2(a1:zn)(t12:Unit):Option Bool:=
 (iter (YL a1 (ZY a1)) FU 0)
def Zi(kb30:(Int→Option Bool))(s29:Int)(t34:Bool):Option Bool:=
 (if t34=true then(some false) else(kb30 (IntKind.wrap .i64 (s29+1))))
def Yr(a1:zn)(kx13:(Unit→Option Bool))(kb30:(Int→Option Bool))(s29:Int):Option Bool:=
 (if s29 < (a1.Locks.length:Int) then((idx a1.Locks s29).bind fun v32=>((jo v32).bind fun v37=>((jt a1.Own v37).bind fun v39=>(if v39=true then((yq a1.Wounded v32.Tx).bind fun v42=>(if v42=true then((Zi kb30 s29) true) else((yq a1.Ended v32.Tx).bind fun v45=>((Zi kb30 s29) v45)))) else((Zi kb30 s29) true))))) else(kx13 ()))
def Qa(a1:zn)(t10:Unit):Option Bool:=
 (iter (Yr a1 (Z2 a1)) FU 0)
def YN(a1:zn)(kx11:(Unit→Option Bool))(kb48:(Int→Option Bool))(s47:Int):Option Bool:=
 (if s47 < (a1.Cells.length:Int) then((idx a1.Cells s47).bind fun v50=>((Y5 v50.Key).bind fun v52=>((jt a1.Own v52).bind fun v54=>(if v54=true then(kb48 (IntKind.wrap .i64 (s47+1))) else(some false))))) else(kx11 ()))
def Q1(a1:zn)(t8:Unit):Option Bool:=
 (iter (YN a1 (Qa a1)) FU 0)
def YI(a1:zn)(kx9:(Unit→Option Bool))(kb58:(Int→Option Bool))(s57:Int):Option Bool:=
 (if s57 < (a1.Frozen.length:Int) then((idx a1.Frozen s57).bind fun v60=>((jt a1.Own v60).bind fun v62=>(if v62=true then(kb58 (IntKind.wrap .i64 (s57+1))) else(some false)))) else(kx9 ()))
def jz(a1:zn)(t5:Bool):Option Bool:=
 (if t5=true then(some false) else(iter (YI a1 (Q1 a1)) FU 0))
def jy(a1:zn)(t2:Bool):Option Bool:=
 (if t2=true then(some false) else(if 60 < (a1.Helds.length:Int) then((jz a1) true) else(if 60 < (a1.Wounded.length:Int) then((jz a1) true) else(if 60 < (a1.Ended.length:Int) then((jz a1) true) else((Q4 a1.Wounded).bind fun v68=>(if v68=true then((Q4 a1.Ended).bind fun v71=>((jz a1) (!v71))) else((jz a1) true)))))))
def Jv(a1:zn):Option Bool:=
 ((yy a1.Me 0 3).bind fun v73=>(if v73=true then((yk a1.Own).bind fun v76=>(if v76=true then((yk a1.Frozen).bind fun v79=>(if v79=true then((Qj a1.Cells).bind fun v82=>(if v82=true then((JH a1.Locks).bind fun v85=>(if v85=true then((yy a1.Rank 0 1000000).bind fun v88=>((jy a1) (!v88))) else((jy a1) true))) else((jy a1) true))) else((jy a1) true))) else((jy a1) true))) else((jy a1) true)))
def Zt(a2:Int)(a1:zn)(t4:Bool):Option Int:=
 (if t4=true then(some 1) else(if a2 < a1.Rank then(some 2) else(some 0)))
def JF(a1:zn)(a2:Int)(a3:ze):Option Int:=
 ((Jv a1).bind fun v8=>(if v8=true then((yy a2 1 1000000).bind fun v11=>(if v11=true then((qJ a3).bind fun v14=>((Zt a2 a1) (!v14))) else((Zt a2 a1) true))) else((Zt a2 a1) true)))
def xq(a1:zn)(t6:(List zL)):Option zn:=
 (if a1.Wounded.length≤2147483648 then(if a1.Ended.length≤2147483648 then(some (zn.mk a1.Me a1.Own a1.Frozen a1.Cells a1.Locks t6 a1.Wounded a1.Ended a1.Rank)) else none) else none)
def YS(a1:zn)(kx7:((List zL)→Option zn))(kb11:((Int×(List zL))→Option zn))(s10:(Int×(List zL))):Option zn:=
 (if s10.1 < (a1.Helds.length:Int) then((idx a1.Helds s10.1).bind fun v13=>(if v13.Writes.length≤2147483648 then(if (s10.2++[v13]).length≤2147483648 then(kb11 ((IntKind.wrap .i64 (s10.1+1)),(s10.2++[v13]))) else none) else none)) else(kx7 s10.2))
def Ql(a1:zn):Option zn:=
 (if a1.Own.length≤2147483648 then(if a1.Frozen.length≤2147483648 then(if a1.Cells.length≤2147483648 then(if a1.Locks.length≤2147483648 then(iter (YS a1 (xq a1)) FU (0,([]:List zL))) else none) else none) else none) else none)
def ZI(a1:zn)(a2:Int):Option zn:=
 (if a2=1 then(some (zn.mk 0 ([]:(List ze)) ([]:(List ze)) ([]:(List zu)) ([]:(List zK)) ([]:(List zL)) ([]:(List Int)) ([]:(List Int)) 0)) else((Ql a1).bind fun v4=>(some v4)))
def kY(t3:Unit):Option Bool:=
 (some false)
def Yv(a1:(List ze))(a2:ze)(kx4:(Unit→Option Bool))(kb6:(Int→Option Bool))(s5:Int):Option Bool:=
 (if s5 < (a1.length:Int) then((idx a1 s5).bind fun v8=>((Zd v8 a2).bind fun v10=>(if v10.2=true then(some true) else(kb6 (IntKind.wrap .i64 (s5+1)))))) else(kx4 ()))
def Q2(a1:(List ze))(a2:ze):Option Bool:=
 (iter (Yv a1 a2 kY) FU 0)
def Zh(t12:(List ze)):Option ((List ze)×Bool):=
 (if 16 < ((t12.length:Nat):Int) then(some (([]:(List ze)),false)) else(some (t12,true)))
def Z0(s15:((List ze)×Int×Int))(t18:Int)(kb16:(((List ze)×Int×Int)→Option ((List ze)×Bool)))(t20:Bool):Option ((List ze)×Bool):=
 (if t20=true then(if (s15.1++([(ze.mk t18 s15.2.2)])).length≤2147483648 then(kb16 ((s15.1++([(ze.mk t18 s15.2.2)])),(-1),(IntKind.wrap .i64 (s15.2.2+1)))) else none) else(kb16 (s15.1,t18,(IntKind.wrap .i64 (s15.2.2+1)))))
def Zf(t10:(List Bool))(s15:((List ze)×Int×Int))(kb16:(((List ze)×Int×Int)→Option ((List ze)×Bool)))(t18:Int):Option ((List ze)×Bool):=
 ((idx t10 s15.2.2).bind fun v24=>(if v24=true then((Z0 s15 t18 kb16) false) else((Z0 s15 t18 kb16) (decide (0≤t18)))))
def Qm(kx19:(Int→Option ((List ze)×Bool)))(s15:((List ze)×Int×Int))(t27:Bool):Option ((List ze)×Bool):=
 (if t27=true then(kx19 s15.2.2) else(kx19 s15.2.1))
def Qd(t10:(List Bool))(kx13:((List ze)→Option ((List ze)×Bool)))(kb16:(((List ze)×Int×Int)→Option ((List ze)×Bool)))(s15:((List ze)×Int×Int)):Option ((List ze)×Bool):=
 (if s15.2.2≤1000 then((idx t10 s15.2.2).bind fun v30=>(if v30=true then((Qm (Zf t10 s15 kb16) s15) (decide (s15.2.1 < 0))) else((Qm (Zf t10 s15 kb16) s15) false))) else(kx13 s15.1))
def Z4(t10:(List Bool)):Option ((List ze)×Bool):=
 (iter (Qd t10 Zh) FU (([]:List ze),(-1),0))
def YP(a2:ze)(a3:Bool)(kx11:((List Bool)→Option ((List ze)×Bool)))(kb34:(((List Bool)×Int)→Option ((List ze)×Bool)))(s33:((List Bool)×Int)):Option ((List ze)×Bool):=
 (if s33.2 < a2.Hi then((idx s33.1 s33.2).bind fun v36=>(kb34 (s33.1.set (Int.toNat s33.2) a3,(IntKind.wrap .i64 (s33.2+1))))) else(kx11 s33.1))
def xg(a2:ze)(a3:Bool)(t8:(List Bool)):Option ((List ze)×Bool):=
 (iter (YP a2 a3 Z4) FU (t8,a2.Lo))
def Qg(kb39:(((List Bool)×Int)→Option ((List ze)×Bool)))(s38:((List Bool)×Int))(t41:(List Bool)):Option ((List ze)×Bool):=
 (kb39 (t41,(IntKind.wrap .i64 (s38.2+1))))
def Yi(a1:(List ze))(s38:((List Bool)×Int))(kx42:((List Bool)→Option ((List ze)×Bool)))(kb46:(((List Bool)×Int)→Option ((List ze)×Bool)))(s45:((List Bool)×Int)):Option ((List ze)×Bool):=
 ((idx a1 s38.2).bind fun v47=>(if s45.2 < v47.Hi then((idx s45.1 s45.2).bind fun v50=>(kb46 (s45.1.set (Int.toNat s45.2) true,(IntKind.wrap .i64 (s45.2+1))))) else(kx42 s45.1)))
def Qe(a1:(List ze))(kx9:((List Bool)→Option ((List ze)×Bool)))(kb39:(((List Bool)×Int)→Option ((List ze)×Bool)))(s38:((List Bool)×Int)):Option ((List ze)×Bool):=
 (if s38.2 < (a1.length:Int) then((idx a1 s38.2).bind fun v43=>(iter (Yi a1 s38 (Qg kb39 s38)) FU (s38.1,v43.Lo))) else(kx9 s38.1))
def yL(a1:(List ze))(a2:ze)(a3:Bool)(t4:Bool):Option ((List ze)×Bool):=
 (if t4=true then(some (([]:(List ze)),false)) else(if (0:Int)≤1001∧(1001:Int)≤2147483648 then(iter (Qe a1 (xg a2 a3)) FU ((List.replicate (Int.toNat 1001) false),0)) else none))
def Jw(a1:(List ze))(a2:ze)(a3:Bool):Option ((List ze)×Bool):=
 ((yk a1).bind fun v52=>(if v52=true then((qJ a2).bind fun v55=>((yL a1 a2 a3) (!v55))) else((yL a1 a2 a3) true)))
def ZL(a1:(List ze))(a2:ze):Option ((List ze)×Bool):=
 ((Jw a1 a2 false).bind fun v3=>(some (v3.1,v3.2)))
def Zo(v9:zn)(a1:zn)(a3:ze)(a2:Int)(t11:Bool):Option (zn×Int):=
 (if t11=true then(some (v9,0)) else((jt a1.Frozen a3).bind fun v14=>(if v14=true then((ZL a1.Frozen a3).bind fun v17=>(if v17.2=true then(some ((zn.mk v9.Me v9.Own v17.1 v9.Cells v9.Locks v9.Helds v9.Wounded v9.Ended a2),0)) else(some (v9,6)))) else(some (v9,4)))))
def ZW(a1:zn)(a2:Int)(a3:ze):Option (zn×Int):=
 ((JF a1 a2 a3).bind fun v4=>(if ¬v4=0 then((ZI a1 v4).bind fun v7=>(some (v7,v4))) else((Ql a1).bind fun v9=>(if a2=a1.Rank then((Q2 a1.Frozen a3).bind fun v21=>((Zo v9 a1 a3 a2) (!v21))) else((Zo v9 a1 a3 a2) false)))))
def yh(a1:Int)(a2:Int)(a3:Int):Option Bool:=
 (if a2≤a1 then(some (decide (a1≤a3))) else(some false))
def JP(a1:Int):Option Bool:=
 ((yh a1 0 3).bind fun v2=>(some v2))
def ye(a1:ze):Option Bool:=
 (if 0≤a1.Lo then(if a1.Lo < a1.Hi then(some (decide (a1.Hi≤1000))) else(some false)) else(some false))
def Yz(a1:(List ze))(t2:Unit):Option Bool:=
 (some (decide ((a1.length:Int)≤16)))
def y5(kb5:(Int→Option Bool))(s4:Int)(t9:Bool):Option Bool:=
 (if t9=true then(some false) else(kb5 (IntKind.wrap .i64 (s4+1))))
def YA(a1:(List ze))(kx3:(Unit→Option Bool))(kb5:(Int→Option Bool))(s4:Int):Option Bool:=
 (if s4 < (a1.length:Int) then((idx a1 s4).bind fun v7=>((ye v7).bind fun v12=>(if v12=true then(if 0 < s4 then((idx a1 (IntKind.wrap .i64 (s4 - 1))).bind fun v16=>((y5 kb5 s4) (decide (v7.Lo < v16.Hi)))) else((y5 kb5 s4) false)) else((y5 kb5 s4) true)))) else(kx3 ()))
def yQ(a1:(List ze)):Option Bool:=
 (iter (YA a1 (Yz a1)) FU 0)
def YT(a1:Int):Option Bool:=
 ((yh a1 0 999).bind fun v2=>(some v2))
def JR(a1:Int):Option Bool:=
 ((yh a1 0 1000000000).bind fun v2=>(some v2))
def xz(a1:(List zu))(t2:Unit):Option Bool:=
 (some (decide ((a1.length:Int)≤60)))
def yM(kb5:(Int→Option Bool))(s4:Int)(t9:Bool):Option Bool:=
 (if t9=true then(some false) else(kb5 (IntKind.wrap .i64 (s4+1))))
def xE(a1:(List zu))(kx3:(Unit→Option Bool))(kb5:(Int→Option Bool))(s4:Int):Option Bool:=
 (if s4 < (a1.length:Int) then((idx a1 s4).bind fun v7=>((YT v7.Key).bind fun v12=>(if v12=true then((JR v7.Value).bind fun v15=>(if v15=true then(if 0 < s4 then((idx a1 (IntKind.wrap .i64 (s4 - 1))).bind fun v19=>((yM kb5 s4) (decide (v7.Key≤v19.Key)))) else((yM kb5 s4) false)) else((yM kb5 s4) true))) else((yM kb5 s4) true)))) else(kx3 ()))
def Qo(a1:(List zu)):Option Bool:=
 (iter (xE a1 (xz a1)) FU 0)
def xR(a1:Int):Option Bool:=
 ((yh a1 1 60).bind fun v2=>(some v2))
def qZ(a1:zK):Option ze:=
 (some (ze.mk a1.Lo a1.Hi))
def Q6(a1:Int):Option Bool:=
 (if a1=1 then(some true) else(some (decide (a1=2))))
def Qt(a1:ze)(a2:ze):Option Bool:=
 (if a1.Lo < a2.Hi then(some (decide (a2.Lo < a1.Hi))) else(some false))
def kp(a1:zK)(a2:zK):Option Bool:=
 (if ¬a1.Tx=a2.Tx then(if a1.Mode=2 then((qZ a1).bind fun v5=>((qZ a2).bind fun v7=>((Qt v5 v7).bind fun v9=>(some v9)))) else(if a2.Mode=2 then((qZ a1).bind fun v12=>((qZ a2).bind fun v14=>((Qt v12 v14).bind fun v16=>(some v16)))) else(some false))) else(some false))
def Z9(a1:zK)(a2:zK):Option Bool:=
 ((kp a2 a1).bind fun v3=>(some v3))
def jW(t3:Unit):Option Int:=
 (some (-1))
def je(a1:(List zK))(a2:zK)(kx4:(Unit→Option Int))(kb6:(Int→Option Int))(s5:Int):Option Int:=
 (if s5 < (a1.length:Int) then((idx a1 s5).bind fun v8=>((Z9 v8 a2).bind fun v10=>(if v10=true then(some s5) else(kb6 (IntKind.wrap .i64 (s5+1)))))) else(kx4 ()))
def jk(a1:(List zK))(a2:zK):Option Int:=
 (iter (je a1 a2 jW) FU 0)
def qw(a1:(List zK))(a2:zK):Option Bool:=
 ((jk a1 a2).bind fun v3=>(some (decide (0≤v3))))
def xA(a1:(List zK))(t2:Unit):Option Bool:=
 (some (decide ((a1.length:Int)≤40)))
def yP(kb5:(Int→Option Bool))(s4:Int)(t9:Bool):Option Bool:=
 (if t9=true then(some false) else(kb5 (IntKind.wrap .i64 (s4+1))))
def xn(a1:(List zK))(kx3:(Unit→Option Bool))(kb5:(Int→Option Bool))(s4:Int):Option Bool:=
 (if s4 < (a1.length:Int) then((idx a1 s4).bind fun v7=>((xR v7.Tx).bind fun v12=>(if v12=true then((qZ v7).bind fun v15=>((ye v15).bind fun v17=>(if v17=true then((Q6 v7.Mode).bind fun v20=>(if v20=true then((cut a1 0 s4).bind fun v23=>((qw v23 v7).bind fun v25=>((yP kb5 s4) v25))) else((yP kb5 s4) true))) else((yP kb5 s4) true)))) else((yP kb5 s4) true)))) else(kx3 ()))
def Z7(a1:(List zK)):Option Bool:=
 (iter (xn a1 (xA a1)) FU 0)
def QX(a1:Int):Option Bool:=
 ((yh a1 (-1) 1000000000).bind fun v2=>(some v2))
def YC(a1:(List zu))(t2:Unit):Option Bool:=
 (some (decide ((a1.length:Int)≤60)))
def yo(kb5:(Int→Option Bool))(s4:Int)(t9:Bool):Option Bool:=
 (if t9=true then(some false) else(kb5 (IntKind.wrap .i64 (s4+1))))
def Ym(a1:(List zu))(kx3:(Unit→Option Bool))(kb5:(Int→Option Bool))(s4:Int):Option Bool:=
 (if s4 < (a1.length:Int) then((idx a1 s4).bind fun v7=>((YT v7.Key).bind fun v12=>(if v12=true then((QX v7.Value).bind fun v15=>(if v15=true then(if 0 < s4 then((idx a1 (IntKind.wrap .i64 (s4 - 1))).bind fun v19=>((yo kb5 s4) (decide (v7.Key≤v19.Key)))) else((yo kb5 s4) false)) else((yo kb5 s4) true))) else((yo kb5 s4) true)))) else(kx3 ()))
def Zu(a1:(List zu)):Option Bool:=
 (iter (Ym a1 (YC a1)) FU 0)
def X5(a1:Int):Option ze:=
 (some (ze.mk a1 (IntKind.wrap .i64 (a1+1))))
def Zp(a1:zK)(a2:Int)(a3:Int)(a4:ze):Option Bool:=
 (if a1.Tx=a2 then(if a1.Mode=a3 then(if a1.Lo≤a4.Lo then(some (decide (a4.Hi≤a1.Hi))) else(some false)) else(if a1.Mode=2 then(if a1.Lo≤a4.Lo then(some (decide (a4.Hi≤a1.Hi))) else(some false)) else(some false))) else(some false))
def jF(t5:Unit):Option Int:=
 (some (-1))
def qQ(a1:(List zK))(a2:Int)(a3:Int)(a4:ze)(kx6:(Unit→Option Int))(kb8:(Int→Option Int))(s7:Int):Option Int:=
 (if s7 < (a1.length:Int) then((idx a1 s7).bind fun v10=>((Zp v10 a2 a3 a4).bind fun v12=>(if v12=true then(some s7) else(kb8 (IntKind.wrap .i64 (s7+1)))))) else(kx6 ()))
def qX(a1:(List zK))(a2:Int)(a3:Int)(a4:ze):Option Int:=
 (iter (qQ a1 a2 a3 a4 jF) FU 0)
def qm(a1:(List zK))(a2:Int)(a3:Int)(a4:ze):Option Bool:=
 ((qX a1 a2 a3 a4).bind fun v5=>(some (decide (0≤v5))))
def ZV(a1:(List zK))(a2:Int)(a3:ze)(a4:Int):Option Bool:=
 ((Z7 a1).bind fun v5=>(if v5=true then((ye a3).bind fun v8=>(if v8=true then((Q6 a4).bind fun v11=>(if v11=true then((qm a1 a2 a4 a3).bind fun v14=>(some v14)) else(some false))) else(some false))) else(some false)))
def ZZ(a1:zu)(a2:zn)(a3:zL):Option Bool:=
 ((X5 a1.Key).bind fun v4=>((ZV a2.Locks a3.Tx v4 2).bind fun v6=>(some (!v6))))
def jN(t4:Unit):Option Int:=
 (some (-1))
def qW(a1:(List zu))(a2:zn)(a3:zL)(kx5:(Unit→Option Int))(kb7:(Int→Option Int))(s6:Int):Option Int:=
 (if s6 < (a1.length:Int) then((idx a1 s6).bind fun v9=>((ZZ v9 a2 a3).bind fun v11=>(if v11=true then(some s6) else(kb7 (IntKind.wrap .i64 (s6+1)))))) else(kx5 ()))
def jf(a1:(List zu))(a2:zn)(a3:zL):Option Int:=
 (iter (qW a1 a2 a3 jN) FU 0)
def qq(a1:(List zu))(a2:zn)(a3:zL):Option Bool:=
 ((jf a1 a2 a3).bind fun v4=>(some (decide (0≤v4))))
def Xp(t2:(List Int)):Option (List Int):=
 (some t2)
def Xj(a1:(List zL))(kx3:((List Int)→Option (List Int)))(kb5:(((List Int)×Int)→Option (List Int)))(s4:((List Int)×Int)):Option (List Int):=
 (if s4.2 < (a1.length:Int) then((idx a1 s4.2).bind fun v7=>(if (s4.1++([v7.Tx])).length≤2147483648 then(kb5 ((s4.1++([v7.Tx])),(IntKind.wrap .i64 (s4.2+1)))) else none)) else(kx3 s4.1))
def Yp(a1:(List zL)):Option (List Int):=
 (iter (Xj a1 Xp) FU (([]:List Int),0))
def kc(t2:Unit):Option Bool:=
 (some true)
def yI(kb5:(Int→Option Bool))(s4:Int)(t9:Bool):Option Bool:=
 (if t9=true then(some false) else(kb5 (IntKind.wrap .i64 (s4+1))))
def Ji(a1:(List Int))(kx3:(Unit→Option Bool))(kb5:(Int→Option Bool))(s4:Int):Option Bool:=
 (if s4 < (a1.length:Int) then((idx a1 s4).bind fun v7=>((xR v7).bind fun v12=>(if v12=true then(if 0 < s4 then((idx a1 (IntKind.wrap .i64 (s4 - 1))).bind fun v16=>((yI kb5 s4) (decide (v7≤v16)))) else((yI kb5 s4) false)) else((yI kb5 s4) true)))) else(kx3 ()))
def yp(a1:(List Int)):Option Bool:=
 (iter (Ji a1 kc) FU 0)
def xG(a1:zn)(t2:Unit):Option Bool:=
 ((Yp a1.Helds).bind fun v4=>((yp v4).bind fun v6=>(some v6)))
def Qk(kb9:(Int→Option Bool))(s8:Int)(t13:Bool):Option Bool:=
 (if t13=true then(some false) else(kb9 (IntKind.wrap .i64 (s8+1))))
def xI(a1:zn)(kx3:(Unit→Option Bool))(kb9:(Int→Option Bool))(s8:Int):Option Bool:=
 (if s8 < (a1.Helds.length:Int) then((idx a1.Helds s8).bind fun v11=>((Zu v11.Writes).bind fun v16=>(if v16=true then((qq v11.Writes a1 v11).bind fun v19=>((Qk kb9 s8) v19)) else((Qk kb9 s8) true)))) else(kx3 ()))
def Jx(a1:zn):Option Bool:=
 (iter (xI a1 (xG a1)) FU 0)
def xl(a2:ze)(t3:Int):Option Bool:=
 (some (decide (a2.Hi≤t3)))
def Z8(kb6:((Int×Int)→Option Bool))(v8:ze)(s5:(Int×Int))(t10:Bool):Option Bool:=
 (if t10=true then(kb6 (v8.Hi,(IntKind.wrap .i64 (s5.2+1)))) else(kb6 (s5.1,(IntKind.wrap .i64 (s5.2+1)))))
def xB(a1:(List ze))(kx4:(Int→Option Bool))(kb6:((Int×Int)→Option Bool))(s5:(Int×Int)):Option Bool:=
 (if s5.2 < (a1.length:Int) then((idx a1 s5.2).bind fun v8=>(if v8.Lo≤s5.1 then((Z8 kb6 v8 s5) (decide (s5.1 < v8.Hi))) else((Z8 kb6 v8 s5) false))) else(kx4 s5.1))
def yx(a1:(List ze))(a2:ze):Option Bool:=
 (iter (xB a1 (xl a2)) FU (a2.Lo,0))
def ZX(a1:ze)(a2:zn):Option Bool:=
 ((yx a2.Own a1).bind fun v3=>(some (!v3)))
def jL(t3:Unit):Option Int:=
 (some (-1))
def qT(a1:(List ze))(a2:zn)(kx4:(Unit→Option Int))(kb6:(Int→Option Int))(s5:Int):Option Int:=
 (if s5 < (a1.length:Int) then((idx a1 s5).bind fun v8=>((ZX v8 a2).bind fun v10=>(if v10=true then(some s5) else(kb6 (IntKind.wrap .i64 (s5+1)))))) else(kx4 ()))
def jd(a1:(List ze))(a2:zn):Option Int:=
 (iter (qT a1 a2 jL) FU 0)
def qp(a1:(List ze))(a2:zn):Option Bool:=
 ((jd a1 a2).bind fun v3=>(some (decide (0≤v3))))
def Z6(a1:zu)(a2:zn):Option Bool:=
 ((X5 a1.Key).bind fun v3=>((yx a2.Own v3).bind fun v5=>(some (!v5))))
def jU(t3:Unit):Option Int:=
 (some (-1))
def jc(a1:(List zu))(a2:zn)(kx4:(Unit→Option Int))(kb6:(Int→Option Int))(s5:Int):Option Int:=
 (if s5 < (a1.length:Int) then((idx a1 s5).bind fun v8=>((Z6 v8 a2).bind fun v10=>(if v10=true then(some s5) else(kb6 (IntKind.wrap .i64 (s5+1)))))) else(kx4 ()))
def jl(a1:(List zu))(a2:zn):Option Int:=
 (iter (jc a1 a2 jU) FU 0)
def qx(a1:(List zu))(a2:zn):Option Bool:=
 ((jl a1 a2).bind fun v3=>(some (decide (0≤v3))))
def kt(a1:List Int)(a2:Int):Option (List Int):=
 if 0≤a2∧a2≤1000000000 then some [] else none
def ZE(t6:(List Int)):Option (List Int):=
 (some t6)
def ZJ(a1:(List (List Int)))(kx7:((List Int)→Option (List Int)))(kb9:(((List Int)×Int)→Option (List Int)))(s8:((List Int)×Int)):Option (List Int):=
 (if s8.2 < (a1.length:Int) then((idx a1 s8.2).bind fun v11=>(if (s8.1++v11).length≤2147483648 then(kb9 ((s8.1++v11),(IntKind.wrap .i64 (s8.2+1)))) else none)) else(kx7 s8.1))
def ZB(a1:(List (List Int)))(t2:Int):Option (List Int):=
 ((kt ([]:(List Int)) t2).bind fun v4=>(iter (ZJ a1 ZE) FU (v4,0)))
def Zs(a1:(List (List Int)))(kx3:(Int→Option (List Int)))(kb15:((Int×Int)→Option (List Int)))(s14:(Int×Int)):Option (List Int):=
 (if s14.2 < (a1.length:Int) then((idx a1 s14.2).bind fun v17=>(if (IntKind.wrap .i64 (s14.1+(v17.length:Int))) < 0 then none else(kb15 ((IntKind.wrap .i64 (s14.1+(v17.length:Int))),(IntKind.wrap .i64 (s14.2+1)))))) else(kx3 s14.1))
def yU(a1:(List (List Int))):Option (List Int):=
 (iter (Zs a1 (ZB a1)) FU (0,0))
def YZ(t3:Unit):Option Int:=
 (some (-1))
def ZS(a1:(List Int))(a2:Int)(kx4:(Unit→Option Int))(kb6:(Int→Option Int))(s5:Int):Option Int:=
 (if s5 < (a1.length:Int) then((idx a1 s5).bind fun v8=>(if a2=v8 then(some s5) else(kb6 (IntKind.wrap .i64 (s5+1))))) else(kx4 ()))
def QB(a1:(List Int))(a2:Int):Option Int:=
 (iter (ZS a1 a2 YZ) FU 0)
def yl(a1:(List Int))(a2:Int):Option Bool:=
 ((QB a1 a2).bind fun v3=>(some (decide (0≤v3))))
def Qp(a1:zK)(a2:zn)(a3:(List Int)):Option Bool:=
 ((qZ a1).bind fun v4=>((yx a2.Own v4).bind fun v6=>(if v6=true then((yl a3 a1.Tx).bind fun v9=>(some v9)) else(some true))))
def jX(t4:Unit):Option Int:=
 (some (-1))
def jb(a1:(List zK))(a2:zn)(a3:(List Int))(kx5:(Unit→Option Int))(kb7:(Int→Option Int))(s6:Int):Option Int:=
 (if s6 < (a1.length:Int) then((idx a1 s6).bind fun v9=>((Qp v9 a2 a3).bind fun v11=>(if v11=true then(some s6) else(kb7 (IntKind.wrap .i64 (s6+1)))))) else(kx5 ()))
def jm(a1:(List zK))(a2:zn)(a3:(List Int)):Option Int:=
 (iter (jb a1 a2 a3 jX) FU 0)
def qu(a1:(List zK))(a2:zn)(a3:(List Int)):Option Bool:=
 ((jm a1 a2 a3).bind fun v4=>(some (decide (0≤v4))))
def ka(a1:List Int):Option (List Int):=
 if a1.length≤1000000000 then some (zaP a1) else none
def yf(a1:(List Int))(t2:Unit):Option (List Int):=
 (if a1.length≤2147483648 then(some a1) else none)
def j3(a1:(List Int)):Option (List Int):=
 (if a1.length=0 then((yf a1) ()) else((yf a1) ()))
def JE(a1:List Int):Option (List Int):=
 if a1.length≤1000000000 then some (Go.Lib.compact a1) else none
def Zj(a1:zu)(a2:Int):Option Int:=
 (some (IntKind.wrap .i64 (a1.Key - a2)))
def zV(a1:(List zu))(a2:Int)(t3:Int):Option (Int×Bool):=
 (if t3 < (a1.length:Int) then((idx a1 t3).bind fun v6=>((Zj v6 a2).bind fun v8=>(some (t3,(decide (v8=0)))))) else(some (t3,false)))
def zZ(a1:(List zu))(a2:Int)(kx4:(Int→Option (Int×Bool)))(kb11:((Int×Int)→Option (Int×Bool)))(s10:(Int×Int)):Option (Int×Bool):=
 (if s10.1 < s10.2 then((idx a1 (IntKind.wrap .i64 (Int.fdiv (IntKind.wrap .u64 (IntKind.wrap .i64 (s10.1+s10.2))) (2 ^ (min (Int.toNat 1) (IntKind.bits .u64)))))).bind fun v13=>((Zj v13 a2).bind fun v15=>(if v15 < 0 then(kb11 ((IntKind.wrap .i64 ((IntKind.wrap .i64 (Int.fdiv (IntKind.wrap .u64 (IntKind.wrap .i64 (s10.1+s10.2))) (2 ^ (min (Int.toNat 1) (IntKind.bits .u64)))))+1)),s10.2)) else(kb11 (s10.1,(IntKind.wrap .i64 (Int.fdiv (IntKind.wrap .u64 (IntKind.wrap .i64 (s10.1+s10.2))) (2 ^ (min (Int.toNat 1) (IntKind.bits .u64)))))))))) else(kx4 s10.1))
def qt(a1:(List zu))(a2:Int):Option (Int×Bool):=
 (iter (zZ a1 a2 (zV a1 a2)) FU (0,(a1.length:Int)))
def JC(a1:(List zu))(a2:Int):Option (Int×Bool):=
 ((qt a1 a2).bind fun v3=>(some (v3.1,v3.2)))
def JN(a1:(List zu))(a2:Int):Option Int:=
 ((JC a1 a2).bind fun v3=>(if v3.2=true then((idx a1 v3.1).bind fun v6=>(some v6.Value)) else(some (-1))))
def Yh(t6:Int):Option Int:=
 (some t6)
def ZF(kb9:((Int×Int)→Option Int))(s8:(Int×Int))(t13:Bool):Option Int:=
 (if t13=true then(kb9 ((IntKind.wrap .i64 (s8.1+1)),(IntKind.wrap .i64 (s8.2+1)))) else(kb9 (s8.1,(IntKind.wrap .i64 (s8.2+1)))))
def YM(a2:(List zu))(a1:(List zu))(kx7:(Int→Option Int))(kb9:((Int×Int)→Option Int))(s8:(Int×Int)):Option Int:=
 (if s8.2 < (a2.length:Int) then((idx a2 s8.2).bind fun v11=>(if ¬v11.Value=(-1) then((JN a1 v11.Key).bind fun v17=>((ZF kb9 s8) (decide (v17 < 0)))) else((ZF kb9 s8) false))) else(kx7 s8.1))
def Z5(a2:(List zu))(a1:(List zu))(t3:Bool):Option Int:=
 (if t3=true then(some (-1)) else(iter (YM a2 a1 Yh) FU (0,0)))
def QZ(a1:(List zu))(a2:(List zu)):Option Int:=
 ((Qo a1).bind fun v19=>(if v19=true then((Zu a2).bind fun v22=>((Z5 a2 a1) (!v22))) else((Z5 a2 a1) true)))
def XQ(t2:Int):Option Int:=
 (some t2)
def XP(a1:zn)(kx3:(Int→Option Int))(kb5:((Int×Int)→Option Int))(s4:(Int×Int)):Option Int:=
 (if s4.2 < (a1.Helds.length:Int) then((idx a1.Helds s4.2).bind fun v7=>((QZ a1.Cells v7.Writes).bind fun v9=>(kb5 ((IntKind.wrap .i64 (s4.1+v9)),(IntKind.wrap .i64 (s4.2+1)))))) else(kx3 s4.1))
def Xs(a1:zn):Option Int:=
 (iter (XP a1 XQ) FU ((a1.Cells.length:Int),0))
def yO(a1:zn)(t5:Bool):Option Bool:=
 (if t5=true then(some false) else((yU ([a1.Wounded,a1.Ended])).bind fun v8=>((qu a1.Locks a1 v8).bind fun v10=>(if v10=true then(some false) else((Yp a1.Helds).bind fun v13=>(if (v13++v8).length≤2147483648 then((ka (v13++v8)).bind fun v16=>(if v16.length=(v13++v8).length then((j3 v16).bind fun v19=>((JE v19).bind fun v21=>(if (v21.length:Int)=(((v13++v8).length:Nat):Int) then((Xs a1).bind fun v24=>(some (decide (v24≤60)))) else(some false)))) else none)) else none))))))
def qC(a1:zn)(t2:Bool):Option Bool:=
 (if t2=true then(some false) else((qp a1.Frozen a1).bind fun v26=>(if v26=true then((yO a1) true) else((qx a1.Cells a1).bind fun v29=>((yO a1) v29)))))
def ZU(a1:zn):Option Bool:=
 ((JP a1.Me).bind fun v31=>(if v31=true then((yQ a1.Own).bind fun v34=>(if v34=true then((yQ a1.Frozen).bind fun v37=>(if v37=true then((Qo a1.Cells).bind fun v40=>(if v40=true then((Z7 a1.Locks).bind fun v43=>(if v43=true then((Jx a1).bind fun v46=>(if v46=true then((yp a1.Wounded).bind fun v49=>(if v49=true then((yp a1.Ended).bind fun v52=>(if v52=true then((yh a1.Rank 0 1000000).bind fun v55=>((qC a1) (!v55))) else((qC a1) true))) else((qC a1) true))) else((qC a1) true))) else((qC a1) true))) else((qC a1) true))) else((qC a1) true))) else((qC a1) true))) else((qC a1) true)))
def Zy(a2:Int)(a1:zn)(t4:Bool):Option Int:=
 (if t4=true then(some 1) else(if a2 < a1.Rank then(some 2) else(some 0)))
def Jz(a1:zn)(a2:Int)(a3:ze):Option Int:=
 ((ZU a1).bind fun v8=>(if v8=true then((yh a2 1 1000000).bind fun v11=>(if v11=true then((ye a3).bind fun v14=>((Zy a2 a1) (!v14))) else((Zy a2 a1) true))) else((Zy a2 a1) true)))
def jR(a1:(List ze))(t2:Unit):Option (List ze):=
 (if a1.length≤2147483648 then(some a1) else none)
def j8(a1:(List ze)):Option (List ze):=
 (if a1.length=0 then((jR a1) ()) else((jR a1) ()))
def j6(a1:(List zu))(t2:Unit):Option (List zu):=
 (if a1.length≤2147483648 then(some a1) else none)
def yW(a1:(List zu)):Option (List zu):=
 (if a1.length=0 then((j6 a1) ()) else((j6 a1) ()))
def j7(a1:(List zK))(t2:Unit):Option (List zK):=
 (if a1.length≤2147483648 then(some a1) else none)
def yT(a1:(List zK)):Option (List zK):=
 (if a1.length=0 then((j7 a1) ()) else((j7 a1) ()))
def jS(a1:(List zu))(t2:Unit):Option (List zu):=
 (if a1.length≤2147483648 then(some a1) else none)
def yr(a1:(List zu)):Option (List zu):=
 (if a1.length=0 then((jS a1) ()) else((jS a1) ()))
def QF(a1:zn)(v2:(List ze))(v4:(List ze))(v6:(List zu))(v8:(List zK))(v10:(List Int))(v12:(List Int))(t14:(List zL)):Option zn:=
 (some (zn.mk a1.Me v2 v4 v6 v8 t14 v10 v12 a1.Rank))
def QD(a1:zn)(kx15:((List zL)→Option zn))(kb17:((Int×(List zL))→Option zn))(s16:(Int×(List zL))):Option zn:=
 (if s16.1 < (a1.Helds.length:Int) then((idx a1.Helds s16.1).bind fun v19=>((yr v19.Writes).bind fun v21=>(if (s16.2++[(zL.mk v19.Tx v21)]).length≤2147483648 then(kb17 ((IntKind.wrap .i64 (s16.1+1)),(s16.2++[(zL.mk v19.Tx v21)]))) else none))) else(kx15 s16.2))
def j9(a1:zn):Option zn:=
 ((j8 a1.Own).bind fun v2=>((j8 a1.Frozen).bind fun v4=>((yW a1.Cells).bind fun v6=>((yT a1.Locks).bind fun v8=>((j3 a1.Wounded).bind fun v10=>((j3 a1.Ended).bind fun v12=>(iter (QD a1 (QF a1 v2 v4 v6 v8 v10 v12)) FU (0,([]:List zL)))))))))
def JD(a1:zn)(a2:Int):Option (zn×Int):=
 (if a2=1 then(some ((zn.mk 0 ([]:(List ze)) ([]:(List ze)) ([]:(List zu)) ([]:(List zK)) ([]:(List zL)) ([]:(List Int)) ([]:(List Int)) 0),1)) else((j9 a1).bind fun v4=>(some (v4,a2))))
def Yt(a1:ze)(a2:ze):Option Bool:=
 ((Qt a2 a1).bind fun v3=>(some v3))
def jM(t3:Unit):Option Int:=
 (some (-1))
def qU(a1:(List ze))(a2:ze)(kx4:(Unit→Option Int))(kb6:(Int→Option Int))(s5:Int):Option Int:=
 (if s5 < (a1.length:Int) then((idx a1 s5).bind fun v8=>((Yt v8 a2).bind fun v10=>(if v10=true then(some s5) else(kb6 (IntKind.wrap .i64 (s5+1)))))) else(kx4 ()))
def jg(a1:(List ze))(a2:ze):Option Int:=
 (iter (qU a1 a2 jM) FU 0)
def qM(a1:(List ze))(a2:ze):Option Bool:=
 ((jg a1 a2).bind fun v3=>(some (decide (0≤v3))))
def JS(a1:(List ze))(a2:ze):Option Bool:=
 ((qM a1 a2).bind fun v3=>(some v3))
def Zb(a1:ze)(a2:Int):Option Bool:=
 ((yh a2 a1.Lo (IntKind.wrap .i64 (a1.Hi - 1))).bind fun v3=>(some v3))
def QC(a1:ze)(a2:Int):Option Bool:=
 ((Zb a1 a2).bind fun v3=>(some v3))
def jv(t3:Unit):Option Int:=
 (some (-1))
def qH(a1:(List ze))(a2:Int)(kx4:(Unit→Option Int))(kb6:(Int→Option Int))(s5:Int):Option Int:=
 (if s5 < (a1.length:Int) then((idx a1 s5).bind fun v8=>((QC v8 a2).bind fun v10=>(if v10=true then(some s5) else(kb6 (IntKind.wrap .i64 (s5+1)))))) else(kx4 ()))
def qP(a1:(List ze))(a2:Int):Option Int:=
 (iter (qH a1 a2 jv) FU 0)
def qk(a1:(List ze))(a2:Int):Option Bool:=
 ((qP a1 a2).bind fun v3=>(some (decide (0≤v3))))
def Z3(a1:Int)(a2:ze)(a3:Bool)(a4:(List ze)):Option Bool:=
 ((Zb a2 a1).bind fun v5=>(if v5=true then(some a3) else((qk a4 a1).bind fun v8=>(some v8))))
def yc(t4:(List ze)):Option (List ze):=
 (some t4)
def jq(s6:((List ze)×Int))(kb7:(((List ze)×Int)→Option (List ze)))(t12:Bool):Option (List ze):=
 (if t12=true then((idx s6.1 (IntKind.wrap .i64 (((s6.1.length:Nat):Int) - 1))).bind fun v15=>((idx s6.1 (IntKind.wrap .i64 (((s6.1.length:Nat):Int) - 1))).bind fun v17=>(kb7 (s6.1.set (Int.toNat (IntKind.wrap .i64 (((s6.1.length:Nat):Int) - 1))) (ze.mk v17.Lo (IntKind.wrap .i64 (v15.Hi+1))),(IntKind.wrap .i64 (s6.2+1)))))) else(if (s6.1++([(ze.mk s6.2 (IntKind.wrap .i64 (s6.2+1)))])).length≤2147483648 then(kb7 ((s6.1++([(ze.mk s6.2 (IntKind.wrap .i64 (s6.2+1)))])),(IntKind.wrap .i64 (s6.2+1)))) else none))
def yb(a1:ze)(a2:Bool)(a3:(List ze))(kx5:((List ze)→Option (List ze)))(kb7:(((List ze)×Int)→Option (List ze)))(s6:((List ze)×Int)):Option (List ze):=
 (if s6.2 < 1000 then((Z3 s6.2 a1 a2 a3).bind fun v9=>(if v9=true then(if 0 < ((s6.1.length:Nat):Int) then((idx s6.1 (IntKind.wrap .i64 (((s6.1.length:Nat):Int) - 1))).bind fun v21=>((jq s6 kb7) (decide (v21.Hi=s6.2)))) else((jq s6 kb7) false)) else(kb7 (s6.1,(IntKind.wrap .i64 (s6.2+1)))))) else(kx5 s6.1))
def jw(a1:ze)(a2:Bool)(a3:(List ze)):Option (List ze):=
 (iter (yb a1 a2 a3 yc) FU (([]:List ze),0))
def QQ(a2:ze)(a3:Bool)(a1:(List ze))(t4:Bool):Option ((List ze)×Bool):=
 (if t4=true then(some (([]:(List ze)),false)) else((jw a2 a3 a1).bind fun v7=>(if 16 < ((v7.length:Nat):Int) then(some (([]:(List ze)),false)) else(some (v7,true)))))
def JU(a1:(List ze))(a2:ze)(a3:Bool):Option ((List ze)×Bool):=
 ((yQ a1).bind fun v10=>(if v10=true then((ye a2).bind fun v13=>((QQ a2 a3 a1) (!v13))) else((QQ a2 a3 a1) true)))
def ZG(a1:(List ze))(a2:ze):Option ((List ze)×Bool):=
 ((JU a1 a2 false).bind fun v3=>(some (v3.1,v3.2)))
def ZD(a1:zn)(a3:ze)(a2:Int)(t9:Bool):Option (zn×Int):=
 (if t9=true then((j9 a1).bind fun v12=>(some (v12,0))) else((yx a1.Frozen a3).bind fun v14=>(if v14=true then((ZG a1.Frozen a3).bind fun v17=>((j9 a1).bind fun v19=>(if v17.2=true then(some ((zn.mk v19.Me v19.Own v17.1 v19.Cells v19.Locks v19.Helds v19.Wounded v19.Ended a2),0)) else(some (v19,6))))) else((j9 a1).bind fun v22=>(some (v22,4))))))
def Zg(a1:zn)(a2:Int)(a3:ze):Option (zn×Int):=
 ((Jz a1 a2 a3).bind fun v4=>(if ¬v4=0 then((JD a1 v4).bind fun v7=>(some (v7.1,v7.2))) else(if a2=a1.Rank then((JS a1.Frozen a3).bind fun v25=>((ZD a1 a3 a2) (!v25))) else((ZD a1 a3 a2) false))))
def JV(a1:ze)(a2:ze):Option Bool:=
 (if ¬a1.Lo=a2.Lo then(some false) else(if ¬a1.Hi=a2.Hi then(some false) else(some true)))
def k8(t4:Unit):Option Bool:=
 (some true)
def YQ(a1:(List ze))(a2:(List ze))(kx5:(Unit→Option Bool))(kb7:(Int→Option Bool))(s6:Int):Option Bool:=
 (if s6 < (a1.length:Int) then((idx a1 s6).bind fun v9=>((idx a2 s6).bind fun v11=>((JV v9 v11).bind fun v13=>(if v13=true then(kb7 (IntKind.wrap .i64 (s6+1))) else(some false))))) else(kx5 ()))
def Zx(a1:(List ze))(a2:(List ze)):Option Bool:=
 (if ¬(a1.length:Int)=(a2.length:Int) then(some false) else(iter (YQ a1 a2 k8) FU 0))
def Y6(a1:zu)(a2:zu):Option Bool:=
 (if ¬a1.Key=a2.Key then(some false) else(if ¬a1.Value=a2.Value then(some false) else(some true)))
def XJ(t4:Unit):Option Bool:=
 (some true)
def xo(a1:(List zu))(a2:(List zu))(kx5:(Unit→Option Bool))(kb7:(Int→Option Bool))(s6:Int):Option Bool:=
 (if s6 < (a1.length:Int) then((idx a1 s6).bind fun v9=>((idx a2 s6).bind fun v11=>((Y6 v9 v11).bind fun v13=>(if v13=true then(kb7 (IntKind.wrap .i64 (s6+1))) else(some false))))) else(kx5 ()))
def Ya(a1:(List zu))(a2:(List zu)):Option Bool:=
 (if ¬(a1.length:Int)=(a2.length:Int) then(some false) else(iter (xo a1 a2 XJ) FU 0))
def Y4(a1:zK)(a2:zK):Option Bool:=
 (if ¬a1.Tx=a2.Tx then(some false) else(if ¬a1.Lo=a2.Lo then(some false) else(if ¬a1.Hi=a2.Hi then(some false) else(if ¬a1.Mode=a2.Mode then(some false) else(some true)))))
def XF(t4:Unit):Option Bool:=
 (some true)
def xk(a1:(List zK))(a2:(List zK))(kx5:(Unit→Option Bool))(kb7:(Int→Option Bool))(s6:Int):Option Bool:=
 (if s6 < (a1.length:Int) then((idx a1 s6).bind fun v9=>((idx a2 s6).bind fun v11=>((Y4 v9 v11).bind fun v13=>(if v13=true then(kb7 (IntKind.wrap .i64 (s6+1))) else(some false))))) else(kx5 ()))
def JL(a1:(List zK))(a2:(List zK)):Option Bool:=
 (if ¬(a1.length:Int)=(a2.length:Int) then(some false) else(iter (xk a1 a2 XF) FU 0))
def JY(a1:zu)(a2:zu):Option Bool:=
 (if ¬a1.Key=a2.Key then(some false) else(if ¬a1.Value=a2.Value then(some false) else(some true)))
def k9(t4:Unit):Option Bool:=
 (some true)
def YH(a1:(List zu))(a2:(List zu))(kx5:(Unit→Option Bool))(kb7:(Int→Option Bool))(s6:Int):Option Bool:=
 (if s6 < (a1.length:Int) then((idx a1 s6).bind fun v9=>((idx a2 s6).bind fun v11=>((JY v9 v11).bind fun v13=>(if v13=true then(kb7 (IntKind.wrap .i64 (s6+1))) else(some false))))) else(kx5 ()))
def QP(a1:(List zu))(a2:(List zu)):Option Bool:=
 (if ¬(a1.length:Int)=(a2.length:Int) then(some false) else(iter (YH a1 a2 k9) FU 0))
def xe(a1:zL)(a2:zL):Option Bool:=
 (if ¬a1.Tx=a2.Tx then(some false) else((QP a1.Writes a2.Writes).bind fun v4=>(if v4=true then(some true) else(some false))))
def XB(t4:Unit):Option Bool:=
 (some true)
def xF(a1:(List zL))(a2:(List zL))(kx5:(Unit→Option Bool))(kb7:(Int→Option Bool))(s6:Int):Option Bool:=
 (if s6 < (a1.length:Int) then((idx a1 s6).bind fun v9=>((idx a2 s6).bind fun v11=>((xe v9 v11).bind fun v13=>(if v13=true then(kb7 (IntKind.wrap .i64 (s6+1))) else(some false))))) else(kx5 ()))
def J4(a1:(List zL))(a2:(List zL)):Option Bool:=
 (if ¬(a1.length:Int)=(a2.length:Int) then(some false) else(iter (xF a1 a2 XB) FU 0))
def X2(t4:Unit):Option Bool:=
 (some true)
def kI(a1:(List Int))(a2:(List Int))(kx5:(Unit→Option Bool))(kb7:(Int→Option Bool))(s6:Int):Option Bool:=
 (if s6 < (a1.length:Int) then((idx a1 s6).bind fun v9=>((idx a2 s6).bind fun v11=>(if ¬v9=v11 then(some false) else(kb7 (IntKind.wrap .i64 (s6+1)))))) else(kx5 ()))
def Q3(a1:(List Int))(a2:(List Int)):Option Bool:=
 (if ¬(a1.length:Int)=(a2.length:Int) then(some false) else(iter (kI a1 a2 X2) FU 0))
def yA(a1:zn)(a2:zn):Option Bool:=
 (if ¬a1.Me=a2.Me then(some false) else((Zx a1.Own a2.Own).bind fun v4=>(if v4=true then((Zx a1.Frozen a2.Frozen).bind fun v7=>(if v7=true then((Ya a1.Cells a2.Cells).bind fun v10=>(if v10=true then((JL a1.Locks a2.Locks).bind fun v13=>(if v13=true then((J4 a1.Helds a2.Helds).bind fun v16=>(if v16=true then((Q3 a1.Wounded a2.Wounded).bind fun v19=>(if v19=true then((Q3 a1.Ended a2.Ended).bind fun v22=>(if v22=true then(if ¬a1.Rank=a2.Rank then(some false) else(some true)) else(some false))) else(some false))) else(some false))) else(some false))) else(some false))) else(some false))) else(some false))))
def QM(a1:(List ze))(t3:((List ze)×Int)):Option (Int×(List ze)):=
 (if t3.1.length=a1.length then(some (t3.2,t3.1)) else none)
def Qu(kx4:(((List ze)×Int)→Option (Int×(List ze))))(kb7:(((List ze)×Int×Int)→Option (Int×(List ze))))(s6:((List ze)×Int×Int)):Option (Int×(List ze)):=
 (if s6.2.2 < ((s6.1.length:Nat):Int) then((idx s6.1 s6.2.2).bind fun v9=>((idx (s6.1.set (Int.toNat s6.2.2) (ze.mk s6.2.1 v9.Hi)) s6.2.2).bind fun v11=>(kb7 ((s6.1.set (Int.toNat s6.2.2) (ze.mk s6.2.1 v9.Hi)).set (Int.toNat s6.2.2) (ze.mk v11.Lo (IntKind.wrap .i64 (s6.2.1+1))),(IntKind.wrap .i64 ((IntKind.wrap .i64 (s6.2.1+1))+1)),(IntKind.wrap .i64 (s6.2.2+1)))))) else(kx4 (s6.1,s6.2.1)))
def jP(a1:(List ze))(a2:Int):Option (Int×(List ze)):=
 (iter (Qu (QM a1)) FU (a1,a2,0))
def Jl(a1:(List zu))(t3:((List zu)×Int)):Option (Int×(List zu)):=
 (if t3.1.length=a1.length then(some (t3.2,t3.1)) else none)
def Jc(kx4:(((List zu)×Int)→Option (Int×(List zu))))(kb7:(((List zu)×Int×Int)→Option (Int×(List zu))))(s6:((List zu)×Int×Int)):Option (Int×(List zu)):=
 (if s6.2.2 < ((s6.1.length:Nat):Int) then((idx s6.1 s6.2.2).bind fun v9=>((idx (s6.1.set (Int.toNat s6.2.2) (zu.mk s6.2.1 v9.Value)) s6.2.2).bind fun v11=>(kb7 ((s6.1.set (Int.toNat s6.2.2) (zu.mk s6.2.1 v9.Value)).set (Int.toNat s6.2.2) (zu.mk v11.Key (IntKind.wrap .i64 (s6.2.1+1))),(IntKind.wrap .i64 ((IntKind.wrap .i64 (s6.2.1+1))+1)),(IntKind.wrap .i64 (s6.2.2+1)))))) else(kx4 (s6.1,s6.2.1)))
def Za(a1:(List zu))(a2:Int):Option (Int×(List zu)):=
 (iter (Jc (Jl a1)) FU (a1,a2,0))
def Jg(a1:(List zK))(t3:((List zK)×Int)):Option (Int×(List zK)):=
 (if t3.1.length=a1.length then(some (t3.2,t3.1)) else none)
def Jq(kx4:(((List zK)×Int)→Option (Int×(List zK))))(kb7:(((List zK)×Int×Int)→Option (Int×(List zK))))(s6:((List zK)×Int×Int)):Option (Int×(List zK)):=
 (if s6.2.2 < ((s6.1.length:Nat):Int) then((idx s6.1 s6.2.2).bind fun v9=>((idx (s6.1.set (Int.toNat s6.2.2) (zK.mk s6.2.1 v9.Lo v9.Hi v9.Mode)) s6.2.2).bind fun v11=>((idx ((s6.1.set (Int.toNat s6.2.2) (zK.mk s6.2.1 v9.Lo v9.Hi v9.Mode)).set (Int.toNat s6.2.2) (zK.mk v11.Tx (IntKind.wrap .i64 (s6.2.1+1)) v11.Hi v11.Mode)) s6.2.2).bind fun v13=>((idx (((s6.1.set (Int.toNat s6.2.2) (zK.mk s6.2.1 v9.Lo v9.Hi v9.Mode)).set (Int.toNat s6.2.2) (zK.mk v11.Tx (IntKind.wrap .i64 (s6.2.1+1)) v11.Hi v11.Mode)).set (Int.toNat s6.2.2) (zK.mk v13.Tx v13.Lo (IntKind.wrap .i64 ((IntKind.wrap .i64 (s6.2.1+1))+1)) v13.Mode)) s6.2.2).bind fun v15=>(kb7 ((((s6.1.set (Int.toNat s6.2.2) (zK.mk s6.2.1 v9.Lo v9.Hi v9.Mode)).set (Int.toNat s6.2.2) (zK.mk v11.Tx (IntKind.wrap .i64 (s6.2.1+1)) v11.Hi v11.Mode)).set (Int.toNat s6.2.2) (zK.mk v13.Tx v13.Lo (IntKind.wrap .i64 ((IntKind.wrap .i64 (s6.2.1+1))+1)) v13.Mode)).set (Int.toNat s6.2.2) (zK.mk v15.Tx v15.Lo v15.Hi (IntKind.wrap .i64 ((IntKind.wrap .i64 ((IntKind.wrap .i64 (s6.2.1+1))+1))+1))),(IntKind.wrap .i64 ((IntKind.wrap .i64 ((IntKind.wrap .i64 ((IntKind.wrap .i64 (s6.2.1+1))+1))+1))+1)),(IntKind.wrap .i64 (s6.2.2+1)))))))) else(kx4 (s6.1,s6.2.1)))
def Ze(a1:(List zK))(a2:Int):Option (Int×(List zK)):=
 (iter (Jq (Jg a1)) FU (a1,a2,0))
def QK(a1:(List zu))(t3:((List zu)×Int)):Option (Int×(List zu)):=
 (if t3.1.length=a1.length then(some (t3.2,t3.1)) else none)
def QJ(kx4:(((List zu)×Int)→Option (Int×(List zu))))(kb7:(((List zu)×Int×Int)→Option (Int×(List zu))))(s6:((List zu)×Int×Int)):Option (Int×(List zu)):=
 (if s6.2.2 < ((s6.1.length:Nat):Int) then((idx s6.1 s6.2.2).bind fun v9=>((idx (s6.1.set (Int.toNat s6.2.2) (zu.mk s6.2.1 v9.Value)) s6.2.2).bind fun v11=>(kb7 ((s6.1.set (Int.toNat s6.2.2) (zu.mk s6.2.1 v9.Value)).set (Int.toNat s6.2.2) (zu.mk v11.Key (IntKind.wrap .i64 (s6.2.1+1))),(IntKind.wrap .i64 ((IntKind.wrap .i64 (s6.2.1+1))+1)),(IntKind.wrap .i64 (s6.2.2+1)))))) else(kx4 (s6.1,s6.2.1)))
def ZC(a1:(List zu))(a2:Int):Option (Int×(List zu)):=
 (iter (QJ (QK a1)) FU (a1,a2,0))
def Jp(a1:(List zL))(t3:((List zL)×Int)):Option (Int×(List zL)):=
 (if t3.1.length=a1.length then(some (t3.2,t3.1)) else none)
def Jk(kx4:(((List zL)×Int)→Option (Int×(List zL))))(kb7:(((List zL)×Int×Int)→Option (Int×(List zL))))(s6:((List zL)×Int×Int)):Option (Int×(List zL)):=
 (if s6.2.2 < ((s6.1.length:Nat):Int) then((idx s6.1 s6.2.2).bind fun v9=>((idx (s6.1.set (Int.toNat s6.2.2) (zL.mk s6.2.1 v9.Writes)) s6.2.2).bind fun v11=>((ZC v11.Writes (IntKind.wrap .i64 (s6.2.1+1))).bind fun v13=>(kb7 ((s6.1.set (Int.toNat s6.2.2) (zL.mk s6.2.1 v9.Writes)).set (Int.toNat s6.2.2) (zL.mk v11.Tx v13.2),v13.1,(IntKind.wrap .i64 (s6.2.2+1))))))) else(kx4 (s6.1,s6.2.1)))
def y8(a1:(List zL))(a2:Int):Option (Int×(List zL)):=
 (iter (Jk (Jp a1)) FU (a1,a2,0))
def Yo(a1:(List Int))(t3:((List Int)×Int)):Option (Int×(List Int)):=
 (if t3.1.length=a1.length then(some (t3.2,t3.1)) else none)
def YK(kx4:(((List Int)×Int)→Option (Int×(List Int))))(kb7:(((List Int)×Int×Int)→Option (Int×(List Int))))(s6:((List Int)×Int×Int)):Option (Int×(List Int)):=
 (if s6.2.2 < ((s6.1.length:Nat):Int) then((idx s6.1 s6.2.2).bind fun v9=>(kb7 (s6.1.set (Int.toNat s6.2.2) s6.2.1,(IntKind.wrap .i64 (s6.2.1+1)),(IntKind.wrap .i64 (s6.2.2+1))))) else(kx4 (s6.1,s6.2.1)))
def yj(a1:(List Int))(a2:Int):Option (Int×(List Int)):=
 (iter (YK (Yo a1)) FU (a1,a2,0))
def Zn(a1:zn)(a2:Int):Option (Int×zn):=
 ((jP a1.Own a2).bind fun v3=>(if v3.2.length=a1.Own.length then((jP a1.Frozen v3.1).bind fun v6=>(if v6.2.length=a1.Frozen.length then((Za a1.Cells v6.1).bind fun v9=>(if v9.2.length=a1.Cells.length then((Ze a1.Locks v9.1).bind fun v12=>(if v12.2.length=a1.Locks.length then((y8 a1.Helds v12.1).bind fun v15=>(if v15.2.length=a1.Helds.length then((yj a1.Wounded v15.1).bind fun v18=>(if v18.2.length=a1.Wounded.length then((yj a1.Ended v18.1).bind fun v21=>(if v21.2.length=a1.Ended.length then(if v3.2.length=a1.Own.length then(if v6.2.length=a1.Frozen.length then(if v9.2.length=a1.Cells.length then(if v12.2.length=a1.Locks.length then(if v15.2.length=a1.Helds.length then(if v18.2.length=a1.Wounded.length then(if v21.2.length=a1.Ended.length then(some (v21.1,(zn.mk a1.Me v3.2 v6.2 v9.2 v12.2 v15.2 v18.2 v21.2 a1.Rank))) else none) else none) else none) else none) else none) else none) else none) else none)) else none)) else none)) else none)) else none)) else none)) else none))
def QH(t3:Int):Option Int:=
 (some t3)
def QN(a1:(List ze))(kx4:(Int→Option Int))(kb6:((Int×Int)→Option Int))(s5:(Int×Int)):Option Int:=
 (if s5.2 < (a1.length:Int) then((idx a1 s5.2).bind fun v8=>(if ¬v8.Lo=s5.1 then(some (-1)) else((idx a1 s5.2).bind fun v11=>(if ¬v11.Hi=(IntKind.wrap .i64 (s5.1+1)) then(some (-1)) else(kb6 ((IntKind.wrap .i64 ((IntKind.wrap .i64 (s5.1+1))+1)),(IntKind.wrap .i64 (s5.2+1)))))))) else(kx4 s5.1))
def jQ(a1:(List ze))(a2:Int):Option Int:=
 (iter (QN a1 QH) FU (a2,0))
def Jo(t3:Int):Option Int:=
 (some t3)
def Jn(a1:(List zu))(kx4:(Int→Option Int))(kb6:((Int×Int)→Option Int))(s5:(Int×Int)):Option Int:=
 (if s5.2 < (a1.length:Int) then((idx a1 s5.2).bind fun v8=>(if ¬v8.Key=s5.1 then(some (-1)) else((idx a1 s5.2).bind fun v11=>(if ¬v11.Value=(IntKind.wrap .i64 (s5.1+1)) then(some (-1)) else(kb6 ((IntKind.wrap .i64 ((IntKind.wrap .i64 (s5.1+1))+1)),(IntKind.wrap .i64 (s5.2+1)))))))) else(kx4 s5.1))
def Zc(a1:(List zu))(a2:Int):Option Int:=
 (iter (Jn a1 Jo) FU (a2,0))
def Jj(t3:Int):Option Int:=
 (some t3)
def Je(a1:(List zK))(kx4:(Int→Option Int))(kb6:((Int×Int)→Option Int))(s5:(Int×Int)):Option Int:=
 (if s5.2 < (a1.length:Int) then((idx a1 s5.2).bind fun v8=>(if ¬v8.Tx=s5.1 then(some (-1)) else((idx a1 s5.2).bind fun v11=>(if ¬v11.Lo=(IntKind.wrap .i64 (s5.1+1)) then(some (-1)) else((idx a1 s5.2).bind fun v14=>(if ¬v14.Hi=(IntKind.wrap .i64 ((IntKind.wrap .i64 (s5.1+1))+1)) then(some (-1)) else((idx a1 s5.2).bind fun v17=>(if ¬v17.Mode=(IntKind.wrap .i64 ((IntKind.wrap .i64 ((IntKind.wrap .i64 (s5.1+1))+1))+1)) then(some (-1)) else(kb6 ((IntKind.wrap .i64 ((IntKind.wrap .i64 ((IntKind.wrap .i64 ((IntKind.wrap .i64 (s5.1+1))+1))+1))+1)),(IntKind.wrap .i64 (s5.2+1)))))))))))) else(kx4 s5.1))
def Zm(a1:(List zK))(a2:Int):Option Int:=
 (iter (Je a1 Jj) FU (a2,0))
def Qw(t3:Int):Option Int:=
 (some t3)
def Qy(a1:(List zu))(kx4:(Int→Option Int))(kb6:((Int×Int)→Option Int))(s5:(Int×Int)):Option Int:=
 (if s5.2 < (a1.length:Int) then((idx a1 s5.2).bind fun v8=>(if ¬v8.Key=s5.1 then(some (-1)) else((idx a1 s5.2).bind fun v11=>(if ¬v11.Value=(IntKind.wrap .i64 (s5.1+1)) then(some (-1)) else(kb6 ((IntKind.wrap .i64 ((IntKind.wrap .i64 (s5.1+1))+1)),(IntKind.wrap .i64 (s5.2+1)))))))) else(kx4 s5.1))
def ZA(a1:(List zu))(a2:Int):Option Int:=
 (iter (Qy a1 Qw) FU (a2,0))
def Jh(t3:Int):Option Int:=
 (some t3)
def Jf(a1:(List zL))(kx4:(Int→Option Int))(kb6:((Int×Int)→Option Int))(s5:(Int×Int)):Option Int:=
 (if s5.2 < (a1.length:Int) then((idx a1 s5.2).bind fun v8=>(if ¬v8.Tx=s5.1 then(some (-1)) else((idx a1 s5.2).bind fun v11=>((ZA v11.Writes (IntKind.wrap .i64 (s5.1+1))).bind fun v13=>(if v13 < 0 then(some (-1)) else(kb6 (v13,(IntKind.wrap .i64 (s5.2+1))))))))) else(kx4 s5.1))
def y4(a1:(List zL))(a2:Int):Option Int:=
 (iter (Jf a1 Jh) FU (a2,0))
def YV(t3:Int):Option Int:=
 (some t3)
def YO(a1:(List Int))(kx4:(Int→Option Int))(kb6:((Int×Int)→Option Int))(s5:(Int×Int)):Option Int:=
 (if s5.2 < (a1.length:Int) then((idx a1 s5.2).bind fun v8=>(if ¬v8=s5.1 then(some (-1)) else(kb6 ((IntKind.wrap .i64 (s5.1+1)),(IntKind.wrap .i64 (s5.2+1)))))) else(kx4 s5.1))
def yg(a1:(List Int))(a2:Int):Option Int:=
 (iter (YO a1 YV) FU (a2,0))
def y9(a1:zn)(a2:Int):Option Int:=
 ((jQ a1.Own a2).bind fun v3=>(if v3 < 0 then(some (-1)) else((jQ a1.Frozen v3).bind fun v6=>(if v6 < 0 then(some (-1)) else((Zc a1.Cells v6).bind fun v9=>(if v9 < 0 then(some (-1)) else((Zm a1.Locks v9).bind fun v12=>(if v12 < 0 then(some (-1)) else((y4 a1.Helds v12).bind fun v15=>(if v15 < 0 then(some (-1)) else((yg a1.Wounded v15).bind fun v18=>(if v18 < 0 then(some (-1)) else((yg a1.Ended v18).bind fun v21=>(if v21 < 0 then(some (-1)) else(some v21)))))))))))))))
def jH(v17:(zn×Int))(v39:(Int×zn))(t58:Bool):Option Bool:=
 (if t58=true then(some false) else((y9 (zn.mk v17.1.Me v39.2.Own v39.2.Frozen v39.2.Cells v39.2.Locks v39.2.Helds v39.2.Wounded v39.2.Ended v17.1.Rank) 1).bind fun v61=>(if v61 < 0 then(some false) else(if ¬v61=v39.1 then(some false) else(some true)))))
def ji(v17:(zn×Int))(a1:zn)(a3:ze)(a2:Int)(v11:(zn×Int))(t36:Bool):Option Bool:=
 (if t36=true then(some false) else((Zn v17.1 1).bind fun v39=>(if v39.2.Own.length=v17.1.Own.length then(if v39.2.Frozen.length=v17.1.Frozen.length then(if v39.2.Cells.length=v17.1.Cells.length then(if v39.2.Locks.length=v17.1.Locks.length then(if v39.2.Helds.length=v17.1.Helds.length then(if v39.2.Wounded.length=v17.1.Wounded.length then(if v39.2.Ended.length=v17.1.Ended.length then((y9 (zn.mk v17.1.Me v39.2.Own v39.2.Frozen v39.2.Cells v39.2.Locks v39.2.Helds v39.2.Wounded v39.2.Ended v17.1.Rank) 1).bind fun v48=>(if v48 < 0 then(some false) else(if ¬v48=v39.1 then(some false) else((yt a1).bind fun v52=>((yB a3).bind fun v54=>((Zg v52 a2 v54).bind fun v56=>((yA v56.1 v11.1).bind fun v65=>(if v65=true then((jH v17 v39) (decide (¬v56.2=v11.2))) else((jH v17 v39) true))))))))) else none) else none) else none) else none) else none) else none) else none)))
def jJ(a1:zn)(v13:zn)(v17:(zn×Int))(a3:ze)(a2:Int)(v11:(zn×Int))(t19:Bool):Option Bool:=
 (if t19=true then(some false) else((yt a1).bind fun v22=>((yA v13 v22).bind fun v24=>(if v24=true then((Zn v13 1).bind fun v27=>(if v27.2.Own.length=v13.Own.length then(if v27.2.Frozen.length=v13.Frozen.length then(if v27.2.Cells.length=v13.Cells.length then(if v27.2.Locks.length=v13.Locks.length then(if v27.2.Helds.length=v13.Helds.length then(if v27.2.Wounded.length=v13.Wounded.length then(if v27.2.Ended.length=v13.Ended.length then(if v27.1 < 0 then((ji v17 a1 a3 a2 v11) true) else((yA v17.1 v11.1).bind fun v69=>(if v69=true then((ji v17 a1 a3 a2 v11) (decide (¬v17.2=v11.2))) else((ji v17 a1 a3 a2 v11) true)))) else none) else none) else none) else none) else none) else none) else none)) else(some false)))))
def yJ(a1:zn)(a2:Int)(a3:ze):Option Bool:=
 ((Js a1 1048576).bind fun v4=>(if v4 < 0 then(some true) else((yt a1).bind fun v7=>((yB a3).bind fun v9=>((ZW v7 a2 v9).bind fun v11=>((yt a1).bind fun v13=>((yB a3).bind fun v15=>((Zg v13 a2 v15).bind fun v17=>((yA v17.1 v11.1).bind fun v72=>(if v72=true then((jJ a1 v13 v17 a3 a2 v11) (decide (¬v17.2=v11.2))) else((jJ a1 v13 v17 a3 a2 v11) true)))))))))))
abbrev qo(x:zK):List C:=[(dI x.Tx),(dI x.Lo),(dI x.Hi),(dI x.Mode)]
abbrev jE(x:zL):List C:=[(dI x.Tx),(.d (.sl 2 (List.map zj x.Writes)))]
abbrev zE(x:zn):List C:=[(dI x.Me),(.d (.sl 2 (List.map zd x.Own))),(.d (.sl 2 (List.map zd x.Frozen))),(.d (.sl 2 (List.map zj x.Cells))),(.d (.sl 4 (List.map zp x.Locks))),(.d (.sl 2 (List.map zA x.Helds))),(.d (.sl 1 (List.map zt x.Wounded))),(.d (.sl 1 (List.map zt x.Ended))),(dI x.Rank)]
end Go.AW
