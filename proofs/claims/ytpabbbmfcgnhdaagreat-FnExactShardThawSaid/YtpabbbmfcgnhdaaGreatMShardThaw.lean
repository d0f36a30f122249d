/- Plain functions that say what functions of the program compute. Conditions: none. -/
import Derived.Test.YtpabbbmfcgnhdaaGreatYs
import Derived.Test.YtpabbbmfcgnhdaaGreatYi
set_option linter.unusedVariables false
set_option linter.unusedSimpArgs false
set_option maxRecDepth 100000
namespace Go.AW
structure ze where
 Lo:Int
 Hi:Int
deriving DecidableEq
def YH(x:ze):Prop:=inK .i64 x.Lo∧inK .i64 x.Hi
structure zu where
 Key:Int
 Value:Int
deriving DecidableEq
def Y5(x:zu):Prop:=inK .i64 x.Key∧inK .i64 x.Value
structure zK where
 Tx:Int
 Lo:Int
 Hi:Int
 Mode:Int
deriving DecidableEq
def zaE(x:zK):Prop:=inK .i64 x.Tx∧inK .i64 x.Lo∧inK .i64 x.Hi∧inK .i64 x.Mode
structure zL where
 Tx:Int
 Writes:(List zu)
deriving DecidableEq
def Xu(x:zL):Prop:=inK .i64 x.Tx∧okS Y5 x.Writes
structure zn where
 Me:Int
 Own:(List ze)
 Frozen:(List ze)
 Cells:(List zu)
 Locks:(List zK)
 Helds:(List zL)
 Wounded:(List Int)
 Ended:(List Int)
 Rank:Int
deriving DecidableEq
def KS(x:zn):Prop:=inK .i64 x.Me∧okS YH x.Own∧okS YH x.Frozen∧okS Y5 x.Cells∧okS zaE x.Locks∧okS Xu x.Helds∧okS (inK .i64) x.Wounded∧okS (inK .i64) x.Ended∧inK .i64 x.Rank
abbrev zd(x:ze):List D:=[(.int .i64 x.Lo),(.int .i64 x.Hi)]
abbrev zj(x:zu):List D:=[(.int .i64 x.Key),(.int .i64 x.Value)]
abbrev zp(x:zK):List D:=[(.int .i64 x.Tx),(.int .i64 x.Lo),(.int .i64 x.Hi),(.int .i64 x.Mode)]
abbrev zA(x:zL):List D:=[(.int .i64 x.Tx),(.sl 2 (List.map zj x.Writes))]
abbrev zt(x:Int):List D:=[(.int .i64 x)]
abbrev zS(x:zn):List D:=[(.int .i64 x.Me),(.sl 2 (List.map zd x.Own)),(.sl 2 (List.map zd x.Frozen)),(.sl 2 (List.map zj x.Cells)),(.sl 4 (List.map zp x.Locks)),(.sl 2 (List.map zA x.Helds)),(.sl 1 (List.map zt x.Wounded)),(.sl 1 (List.map zt x.Ended)),(.int .i64 x.Rank)]
abbrev Qe(x:Bool):List D:=[(.bool x)]
abbrev ZN(x:(List Int)):List D:=[(.sl 1 (List.map zt x))]
abbrev Qp(x:(List ze)):List D:=[(.sl 2 (List.map zd x))]
abbrev zcD(x:(List zu)):List D:=[(.sl 2 (List.map zj x))]
abbrev zhc(x:(List zL)):List D:=[(.sl 2 (List.map zA x))]
abbrev zhC(x:(List zK)):List D:=[(.sl 4 (List.map zp x))]
def Zv(a1:(List ze))(a2:Int):Option Int:=
 (if (IntKind.wrap .i64 (a2 - (a1.length:Int))) < 0 then(some (-1)) else(some (IntKind.wrap .i64 (a2 - (a1.length:Int)))))
def JS(a1:(List zu))(a2:Int):Option Int:=
 (if (IntKind.wrap .i64 (a2 - (a1.length:Int))) < 0 then(some (-1)) else(some (IntKind.wrap .i64 (a2 - (a1.length:Int)))))
def JP(a1:(List zK))(a2:Int):Option Int:=
 (if (IntKind.wrap .i64 (a2 - (a1.length:Int))) < 0 then(some (-1)) else(some (IntKind.wrap .i64 (a2 - (a1.length:Int)))))
def QS(a1:(List zu))(a2:Int):Option Int:=
 (if (IntKind.wrap .i64 (a2 - (a1.length:Int))) < 0 then(some (-1)) else(some (IntKind.wrap .i64 (a2 - (a1.length:Int)))))
def xe(a1:zL)(a2:Int):Option Int:=
 ((QS a1.Writes a2).bind fun v3=>(if v3 < 0 then(some (-1)) else(some v3)))
def xq(t4:Int):Option Int:=
 (some t4)
def xw(a1:(List zL))(kx5:(Int→Option Int))(kb7:((Int×Int)→Option Int))(s6:(Int×Int)):Option Int:=
 (if s6.2 < (a1.length:Int) then((idx a1 s6.2).bind fun v9=>((xe v9 s6.1).bind fun v11=>(if v11 < 0 then(some (-1)) else(kb7 (v11,(IntKind.wrap .i64 (s6.2+1))))))) else(kx5 s6.1))
def JZ(a1:(List zL))(a2:Int):Option Int:=
 (if (IntKind.wrap .i64 (a2 - (a1.length:Int))) < 0 then(some (-1)) else(iter (xw a1 xq) FU ((IntKind.wrap .i64 (a2 - (a1.length:Int))),0)))
def Q8(a1:(List Int))(a2:Int):Option Int:=
 (if (IntKind.wrap .i64 (a2 - (a1.length:Int))) < 0 then(some (-1)) else(some (IntKind.wrap .i64 (a2 - (a1.length:Int)))))
def JJ(a1:zn)(a2:Int):Option Int:=
 ((Zv a1.Own a2).bind fun v3=>(if v3 < 0 then(some (-1)) else((Zv a1.Frozen v3).bind fun v6=>(if v6 < 0 then(some (-1)) else((JS a1.Cells v6).bind fun v9=>(if v9 < 0 then(some (-1)) else((JP a1.Locks v9).bind fun v12=>(if v12 < 0 then(some (-1)) else((JZ a1.Helds v12).bind fun v15=>(if v15 < 0 then(some (-1)) else((Q8 a1.Wounded v15).bind fun v18=>(if v18 < 0 then(some (-1)) else((Q8 a1.Ended v18).bind fun v21=>(if v21 < 0 then(some (-1)) else(some v21)))))))))))))))
def yC(a1:ze):Option ze:=
 (some a1)
def Yi(t3:(List ze)):Option (List ze):=
 (some t3)
def YW(a1:(List ze))(kx4:((List ze)→Option (List ze)))(kb6:(((List ze)×Int)→Option (List ze)))(s5:((List ze)×Int)):Option (List ze):=
 (if s5.2 < (a1.length:Int) then((idx a1 s5.2).bind fun v8=>((yC v8).bind fun v10=>((idx s5.1 s5.2).bind fun v12=>(kb6 (s5.1.set (Int.toNat s5.2) v10,(IntKind.wrap .i64 (s5.2+1))))))) else(kx4 s5.1))
def Zx(a1:(List ze)):Option (List ze):=
 (if 0≤(a1.length:Int)∧(a1.length:Int)≤2147483648 then(iter (YW a1 Yi) FU ((List.replicate (Int.toNat (a1.length:Int)) (ze.mk 0 0)),0)) else none)
def Xj(a1:zu):Option zu:=
 (some a1)
def xD(t3:(List zu)):Option (List zu):=
 (some t3)
def xm(a1:(List zu))(kx4:((List zu)→Option (List zu)))(kb6:(((List zu)×Int)→Option (List zu)))(s5:((List zu)×Int)):Option (List zu):=
 (if s5.2 < (a1.length:Int) then((idx a1 s5.2).bind fun v8=>((Xj v8).bind fun v10=>((idx s5.1 s5.2).bind fun v12=>(kb6 (s5.1.set (Int.toNat s5.2) v10,(IntKind.wrap .i64 (s5.2+1))))))) else(kx4 s5.1))
def J6(a1:(List zu)):Option (List zu):=
 (if 0≤(a1.length:Int)∧(a1.length:Int)≤2147483648 then(iter (xm a1 xD) FU ((List.replicate (Int.toNat (a1.length:Int)) (zu.mk 0 0)),0)) else none)
def Xp(a1:zK):Option zK:=
 (some a1)
def xl(t3:(List zK)):Option (List zK):=
 (some t3)
def xz(a1:(List zK))(kx4:((List zK)→Option (List zK)))(kb6:(((List zK)×Int)→Option (List zK)))(s5:((List zK)×Int)):Option (List zK):=
 (if s5.2 < (a1.length:Int) then((idx a1 s5.2).bind fun v8=>((Xp v8).bind fun v10=>((idx s5.1 s5.2).bind fun v12=>(kb6 (s5.1.set (Int.toNat s5.2) v10,(IntKind.wrap .i64 (s5.2+1))))))) else(kx4 s5.1))
def JQ(a1:(List zK)):Option (List zK):=
 (if 0≤(a1.length:Int)∧(a1.length:Int)≤2147483648 then(iter (xz a1 xl) FU ((List.replicate (Int.toNat (a1.length:Int)) (zK.mk 0 0 0 0)),0)) else none)
def xZ(a1:zu):Option zu:=
 (some a1)
def Yf(t3:(List zu)):Option (List zu):=
 (some t3)
def Yk(a1:(List zu))(kx4:((List zu)→Option (List zu)))(kb6:(((List zu)×Int)→Option (List zu)))(s5:((List zu)×Int)):Option (List zu):=
 (if s5.2 < (a1.length:Int) then((idx a1 s5.2).bind fun v8=>((xZ v8).bind fun v10=>((idx s5.1 s5.2).bind fun v12=>(kb6 (s5.1.set (Int.toNat s5.2) v10,(IntKind.wrap .i64 (s5.2+1))))))) else(kx4 s5.1))
def QY(a1:(List zu)):Option (List zu):=
 (if 0≤(a1.length:Int)∧(a1.length:Int)≤2147483648 then(iter (Yk a1 Yf) FU ((List.replicate (Int.toNat (a1.length:Int)) (zu.mk 0 0)),0)) else none)
def Y6(a1:zL):Option zL:=
 ((QY a1.Writes).bind fun v2=>(some (zL.mk a1.Tx v2)))
def xj(t3:(List zL)):Option (List zL):=
 (some t3)
def xH(a1:(List zL))(kx4:((List zL)→Option (List zL)))(kb6:(((List zL)×Int)→Option (List zL)))(s5:((List zL)×Int)):Option (List zL):=
 (if s5.2 < (a1.length:Int) then((idx a1 s5.2).bind fun v8=>((Y6 v8).bind fun v10=>((idx s5.1 s5.2).bind fun v12=>(kb6 (s5.1.set (Int.toNat s5.2) v10,(IntKind.wrap .i64 (s5.2+1))))))) else(kx4 s5.1))
def JA(a1:(List zL)):Option (List zL):=
 (if 0≤(a1.length:Int)∧(a1.length:Int)≤2147483648 then(iter (xH a1 xj) FU ((List.replicate (Int.toNat (a1.length:Int)) (zL.mk 0 ([]:(List zu)))),0)) else none)
def ku(t3:(List Int)):Option (List Int):=
 (some t3)
def kz(a1:(List Int))(kx4:((List Int)→Option (List Int)))(kb6:(((List Int)×Int)→Option (List Int)))(s5:((List Int)×Int)):Option (List Int):=
 (if s5.2 < (a1.length:Int) then((idx a1 s5.2).bind fun v8=>((idx s5.1 s5.2).bind fun v10=>(kb6 (s5.1.set (Int.toNat s5.2) v8,(IntKind.wrap .i64 (s5.2+1)))))) else(kx4 s5.1))
def Q4(a1:(List Int)):Option (List Int):=
 (if 0≤(a1.length:Int)∧(a1.length:Int)≤2147483648 then(iter (kz a1 ku) FU ((List.replicate (Int.toNat (a1.length:Int)) 0),0)) else none)
def yB(a1:zn):Option zn:=
 ((Zx a1.Own).bind fun v2=>((Zx a1.Frozen).bind fun v4=>((J6 a1.Cells).bind fun v6=>((JQ a1.Locks).bind fun v8=>((JA a1.Helds).bind fun v10=>((Q4 a1.Wounded).bind fun v12=>((Q4 a1.Ended).bind fun v14=>(some (zn.mk a1.Me v2 v4 v6 v8 v10 v12 v14 a1.Rank)))))))))
def yu(a1:Int)(a2:Int)(a3:Int):Option Bool:=
 (if a2≤a1 then(some (decide (a1≤a3))) else(some false))
def qN(a1:ze):Option Bool:=
 (if 0≤a1.Lo then(if a1.Lo < a1.Hi then(some (decide (a1.Hi≤1000))) else(some false)) else(some false))
def k9(t3:Unit):Option Bool:=
 (some true)
def Zi(kb6:(Int→Option Bool))(s5:Int)(t8:Bool):Option Bool:=
 (if t8=true then(some false) else(kb6 (IntKind.wrap .i64 (s5+1))))
def Yy(a1:(List ze))(kx4:(Unit→Option Bool))(kb6:(Int→Option Bool))(s5:Int):Option Bool:=
 (if s5 < (a1.length:Int) then((idx a1 s5).bind fun v11=>((qN v11).bind fun v13=>(if v13=true then(if 0 < s5 then((idx a1 s5).bind fun v17=>((idx a1 (IntKind.wrap .i64 (s5 - 1))).bind fun v19=>((Zi kb6 s5) (decide (v17.Lo < v19.Hi))))) else((Zi kb6 s5) false)) else((Zi kb6 s5) true)))) else(kx4 ()))
def yh(a1:(List ze)):Option Bool:=
 (if 16 < (a1.length:Int) then(some false) else(iter (Yy a1 k9) FU 0))
def Q6(a1:Int):Option Bool:=
 ((yu a1 0 999).bind fun v2=>(some v2))
def JU(a1:Int):Option Bool:=
 ((yu a1 0 1000000000).bind fun v2=>(some v2))
def XM(t3:Unit):Option Bool:=
 (some true)
def yR(kb6:(Int→Option Bool))(s5:Int)(t8:Bool):Option Bool:=
 (if t8=true then(some false) else(kb6 (IntKind.wrap .i64 (s5+1))))
def xu(a1:(List zu))(kx4:(Unit→Option Bool))(kb6:(Int→Option Bool))(s5:Int):Option Bool:=
 (if s5 < (a1.length:Int) then((idx a1 s5).bind fun v11=>((Q6 v11.Key).bind fun v13=>(if v13=true then((idx a1 s5).bind fun v16=>((JU v16.Value).bind fun v18=>(if v18=true then(if 0 < s5 then((idx a1 (IntKind.wrap .i64 (s5 - 1))).bind fun v22=>((idx a1 s5).bind fun v24=>((yR kb6 s5) (decide (v24.Key≤v22.Key))))) else((yR kb6 s5) false)) else((yR kb6 s5) true)))) else((yR kb6 s5) true)))) else(kx4 ()))
def Qd(a1:(List zu)):Option Bool:=
 (if 60 < (a1.length:Int) then(some false) else(iter (xu a1 XM) FU 0))
def QB(a1:Int):Option Bool:=
 ((yu a1 1 60).bind fun v2=>(some v2))
def jp(a1:zK):Option ze:=
 (some (ze.mk a1.Lo a1.Hi))
def JR(a1:Int):Option Bool:=
 (if a1=1 then(some true) else(some (decide (a1=2))))
def kE(a1:Int)(a2:Int):Option Int:=
 (if a2 < a1 then(some a1) else(some a2))
def ki(a1:Int)(a2:Int):Option Int:=
 (if a1 < a2 then(some a1) else(some a2))
def yG(v3:Int)(v5:Int)(t7:Bool):Option (ze×Bool):=
 (if t7=true then(some ((ze.mk 0 0),false)) else(some ((ze.mk v3 v5),true)))
def y7(a1:ze)(a2:ze):Option (ze×Bool):=
 ((kE a1.Lo a2.Lo).bind fun v3=>((ki a1.Hi a2.Hi).bind fun v5=>((qN a1).bind fun v10=>(if v10=true then((qN a2).bind fun v13=>(if v13=true then((qN (ze.mk v3 v5)).bind fun v16=>((yG v3 v5) (!v16))) else((yG v3 v5) true))) else((yG v3 v5) true)))))
def QZ(a1:zK)(a2:zK):Option Bool:=
 ((jp a1).bind fun v3=>((jp a2).bind fun v5=>((y7 v3 v5).bind fun v7=>(if v7.2=true then(if ¬a1.Tx=a2.Tx then(if a1.Mode=2 then(some true) else(some (decide (a2.Mode=2)))) else(some false)) else(some false)))))
def XL(t3:Unit):Option Bool:=
 (some true)
def yO(kb6:(Int→Option Bool))(s5:Int)(t8:Unit):Option Bool:=
 (kb6 (IntKind.wrap .i64 (s5+1)))
def YI(s5:Int)(a1:(List zK))(kx9:(Unit→Option Bool))(kb14:(Int→Option Bool))(s13:Int):Option Bool:=
 (if s13 < s5 then((idx a1 s5).bind fun v16=>((idx a1 s13).bind fun v18=>((QZ v16 v18).bind fun v20=>(if v20=true then(some false) else(kb14 (IntKind.wrap .i64 (s13+1))))))) else(kx9 ()))
def Zm(s5:Int)(a1:(List zK))(kx9:(Unit→Option Bool))(t10:Bool):Option Bool:=
 (if t10=true then(some false) else(iter (YI s5 a1 kx9) FU 0))
def xJ(a1:(List zK))(kx4:(Unit→Option Bool))(kb6:(Int→Option Bool))(s5:Int):Option Bool:=
 (if s5 < (a1.length:Int) then((idx a1 s5).bind fun v23=>((QB v23.Tx).bind fun v25=>(if v25=true then((idx a1 s5).bind fun v28=>((jp v28).bind fun v30=>((qN v30).bind fun v32=>(if v32=true then((idx a1 s5).bind fun v35=>((JR v35.Mode).bind fun v37=>((Zm s5 a1 (yO kb6 s5)) (!v37)))) else((Zm s5 a1 (yO kb6 s5)) true))))) else((Zm s5 a1 (yO kb6 s5)) true)))) else(kx4 ()))
def J0(a1:(List zK)):Option Bool:=
 (if 40 < (a1.length:Int) then(some false) else(iter (xJ a1 XL) FU 0))
def X7(t2:Unit):Option Bool:=
 (some true)
def ZV(kb5:(Int→Option Bool))(s4:Int)(t7:Bool):Option Bool:=
 (if t7=true then(some false) else(kb5 (IntKind.wrap .i64 (s4+1))))
def kc(a1:(List Int))(kx3:(Unit→Option Bool))(kb5:(Int→Option Bool))(s4:Int):Option Bool:=
 (if s4 < (a1.length:Int) then((idx a1 s4).bind fun v10=>((QB v10).bind fun v12=>(if v12=true then(if 0 < s4 then((idx a1 (IntKind.wrap .i64 (s4 - 1))).bind fun v16=>((idx a1 s4).bind fun v18=>((ZV kb5 s4) (decide (v18≤v16))))) else((ZV kb5 s4) false)) else((ZV kb5 s4) true)))) else(kx3 ()))
def Ja(a1:(List Int)):Option Bool:=
 (iter (kc a1 X7) FU 0)
def QK(a2:ze)(t6:Int):Option Bool:=
 (some (decide (a2.Hi≤t6)))
def yW(a1:(List ze))(s8:(Int×Int))(kb9:((Int×Int)→Option Bool))(t11:Bool):Option Bool:=
 (if t11=true then((idx a1 s8.2).bind fun v14=>(kb9 (v14.Hi,(IntKind.wrap .i64 (s8.2+1))))) else(kb9 (s8.1,(IntKind.wrap .i64 (s8.2+1)))))
def QG(a1:(List ze))(kx7:(Int→Option Bool))(kb9:((Int×Int)→Option Bool))(s8:(Int×Int)):Option Bool:=
 (if s8.2 < (a1.length:Int) then((idx a1 s8.2).bind fun v16=>(if v16.Lo≤s8.1 then((idx a1 s8.2).bind fun v19=>((yW a1 s8 kb9) (decide (s8.1 < v19.Hi)))) else((yW a1 s8 kb9) false))) else(kx7 s8.1))
def j4(a1:(List ze))(a2:ze)(t3:Bool):Option Bool:=
 (if t3=true then(some false) else(iter (QG a1 (QK a2)) FU (a2.Lo,0)))
def jt(a1:(List ze))(a2:ze):Option Bool:=
 ((yh a1).bind fun v21=>(if v21=true then((qN a2).bind fun v24=>((j4 a1 a2) (!v24))) else((j4 a1 a2) true)))
def xf(a1:Int):Option ze:=
 (some (ze.mk a1 (IntKind.wrap .i64 (a1+1))))
def kw(t3:Unit):Option Bool:=
 (some false)
def kp(a1:(List Int))(a2:Int)(kx4:(Unit→Option Bool))(kb6:(Int→Option Bool))(s5:Int):Option Bool:=
 (if s5 < (a1.length:Int) then((idx a1 s5).bind fun v8=>(if v8=a2 then(some true) else(kb6 (IntKind.wrap .i64 (s5+1))))) else(kx4 ()))
def yr(a1:(List Int))(a2:Int):Option Bool:=
 (iter (kp a1 a2 kw) FU 0)
def kS(t3:Unit):Option Bool:=
 (some true)
def yp(kb6:(Int→Option Bool))(s5:Int)(t8:Bool):Option Bool:=
 (if t8=true then(some false) else(kb6 (IntKind.wrap .i64 (s5+1))))
def YK(a1:(List zu))(kx4:(Unit→Option Bool))(kb6:(Int→Option Bool))(s5:Int):Option Bool:=
 (if s5 < (a1.length:Int) then((idx a1 s5).bind fun v11=>((Q6 v11.Key).bind fun v13=>(if v13=true then((idx a1 s5).bind fun v16=>((yu v16.Value (-1) 1000000000).bind fun v18=>(if v18=true then(if 0 < s5 then((idx a1 (IntKind.wrap .i64 (s5 - 1))).bind fun v22=>((idx a1 s5).bind fun v24=>((yp kb6 s5) (decide (v24.Key≤v22.Key))))) else((yp kb6 s5) false)) else((yp kb6 s5) true)))) else((yp kb6 s5) true)))) else(kx4 ()))
def yQ(a1:(List zu)):Option Bool:=
 (if 60 < (a1.length:Int) then(some false) else(iter (YK a1 kS) FU 0))
def J8(a1:ze)(a2:ze):Option Bool:=
 ((qN a1).bind fun v3=>(if v3=true then((qN a2).bind fun v6=>(if v6=true then(if a2.Lo≤a1.Lo then(some (decide (a1.Hi≤a2.Hi))) else(some false)) else(some false))) else(some false)))
def Xf(t5:Unit):Option Bool:=
 (some false)
def yF(kb8:(Int→Option Bool))(s7:Int)(t10:Bool):Option Bool:=
 (if t10=true then(some true) else(kb8 (IntKind.wrap .i64 (s7+1))))
def YA(a1:(List zK))(a2:Int)(a3:ze)(a4:Int)(kx6:(Unit→Option Bool))(kb8:(Int→Option Bool))(s7:Int):Option Bool:=
 (if s7 < (a1.length:Int) then((idx a1 s7).bind fun v13=>(if v13.Tx=a2 then((idx a1 s7).bind fun v16=>((jp v16).bind fun v18=>((J8 a3 v18).bind fun v20=>(if v20=true then((idx a1 s7).bind fun v23=>((yF kb8 s7) (decide (a4≤v23.Mode)))) else((yF kb8 s7) false))))) else((yF kb8 s7) false))) else(kx6 ()))
def QW(a1:(List zK))(a2:Int)(a3:ze)(a4:Int):Option Bool:=
 (iter (YA a1 a2 a3 a4 Xf) FU 0)
def xM(t2:Unit):Option Bool:=
 (some true)
def qO(kb5:(Int→Option Bool))(s4:Int)(t7:Unit):Option Bool:=
 (kb5 (IntKind.wrap .i64 (s4+1)))
def yV(kx8:(Unit→Option Bool))(t16:Bool):Option Bool:=
 (if t16=true then(some false) else(kx8 ()))
def ZT(a1:zn)(v9:zL)(kx8:(Unit→Option Bool))(t14:Unit):Option Bool:=
 ((yr a1.Wounded v9.Tx).bind fun v19=>(if v19=true then((yV kx8) true) else((yr a1.Ended v9.Tx).bind fun v22=>((yV kx8) v22))))
def ZS(v9:zL)(a1:zn)(kx15:(Unit→Option Bool))(kb25:(Int→Option Bool))(s24:Int):Option Bool:=
 (if s24 < (v9.Writes.length:Int) then((idx v9.Writes s24).bind fun v27=>((xf v27.Key).bind fun v29=>((QW a1.Locks v9.Tx v29 2).bind fun v31=>(if v31=true then(kb25 (IntKind.wrap .i64 (s24+1))) else(some false))))) else(kx15 ()))
def qY(v9:zL)(a1:zn)(kx8:(Unit→Option Bool))(t11:Bool):Option Bool:=
 (if t11=true then(some false) else(iter (ZS v9 a1 (ZT a1 v9 kx8)) FU 0))
def QI(a1:zn)(kx3:(Unit→Option Bool))(kb5:(Int→Option Bool))(s4:Int):Option Bool:=
 (if s4 < (a1.Helds.length:Int) then((idx a1.Helds s4).bind fun v9=>((QB v9.Tx).bind fun v34=>(if v34=true then(if 0 < s4 then((idx a1.Helds (IntKind.wrap .i64 (s4 - 1))).bind fun v38=>(if v9.Tx≤v38.Tx then((qY v9 a1 (qO kb5 s4)) true) else((yQ v9.Writes).bind fun v41=>((qY v9 a1 (qO kb5 s4)) (!v41))))) else((yQ v9.Writes).bind fun v43=>((qY v9 a1 (qO kb5 s4)) (!v43)))) else((qY v9 a1 (qO kb5 s4)) true)))) else(kx3 ()))
def ZE(a1:zn):Option Bool:=
 (iter (QI a1 xM) FU 0)
def Kb(t3:Unit):Option Int:=
 (some (-1))
def kF(a1:(List zu))(a2:Int)(kx4:(Unit→Option Int))(kb6:(Int→Option Int))(s5:Int):Option Int:=
 (if s5 < (a1.length:Int) then((idx a1 s5).bind fun v8=>(if v8.Key=a2 then((idx a1 s5).bind fun v11=>(some v11.Value)) else(kb6 (IntKind.wrap .i64 (s5+1))))) else(kx4 ()))
def xb(a1:(List zu))(a2:Int):Option Int:=
 (iter (kF a1 a2 Kb) FU 0)
def YO(t6:Int):Option Int:=
 (some t6)
def ZI(kb9:((Int×Int)→Option Int))(s8:(Int×Int))(t11:Bool):Option Int:=
 (if t11=true then(kb9 ((IntKind.wrap .i64 (s8.1+1)),(IntKind.wrap .i64 (s8.2+1)))) else(kb9 (s8.1,(IntKind.wrap .i64 (s8.2+1)))))
def YT(a2:(List zu))(a1:(List zu))(kx7:(Int→Option Int))(kb9:((Int×Int)→Option Int))(s8:(Int×Int)):Option Int:=
 (if s8.2 < (a2.length:Int) then((idx a2 s8.2).bind fun v14=>(if 0≤v14.Value then((idx a2 s8.2).bind fun v17=>((xb a1 v17.Key).bind fun v19=>((ZI kb9 s8) (decide (v19 < 0))))) else((ZI kb9 s8) false))) else(kx7 s8.1))
def Qf(a2:(List zu))(a1:(List zu))(t3:Bool):Option Int:=
 (if t3=true then(some (-1)) else(iter (YT a2 a1 YO) FU (0,0)))
def QV(a1:(List zu))(a2:(List zu)):Option Int:=
 ((Qd a1).bind fun v21=>(if v21=true then((yQ a2).bind fun v24=>((Qf a2 a1) (!v24))) else((Qf a2 a1) true)))
def ky(t2:Int):Option Int:=
 (some t2)
def xY(a1:zn)(kx3:(Int→Option Int))(kb5:((Int×Int)→Option Int))(s4:(Int×Int)):Option Int:=
 (if s4.2 < (a1.Helds.length:Int) then((idx a1.Helds s4.2).bind fun v7=>((QV a1.Cells v7.Writes).bind fun v9=>(kb5 ((IntKind.wrap .i64 (s4.1+v9)),(IntKind.wrap .i64 (s4.2+1)))))) else(kx3 s4.1))
def Y1(a1:zn):Option Int:=
 (iter (xY a1 ky) FU (0,0))
def Z0(a1:zn)(t14:Unit):Option Bool:=
 ((ZE a1).bind fun v16=>(if v16=true then((Y1 a1).bind fun v19=>(some (decide ((IntKind.wrap .i64 ((a1.Cells.length:Int)+v19))≤60)))) else(some false)))
def Yp(a1:zn)(kx15:(Unit→Option Bool))(kb22:(Int→Option Bool))(s21:Int):Option Bool:=
 (if s21 < (a1.Wounded.length:Int) then((idx a1.Wounded s21).bind fun v24=>((yr a1.Ended v24).bind fun v26=>(if v26=true then(some false) else(kb22 (IntKind.wrap .i64 (s21+1)))))) else(kx15 ()))
def Z5(a1:zn)(t12:Unit):Option Bool:=
 (iter (Yp a1 (Z0 a1)) FU 0)
def Zl(kb30:(Int→Option Bool))(s29:Int)(t34:Bool):Option Bool:=
 (if t34=true then(some false) else(kb30 (IntKind.wrap .i64 (s29+1))))
def YJ(a1:zn)(kx13:(Unit→Option Bool))(kb30:(Int→Option Bool))(s29:Int):Option Bool:=
 (if s29 < (a1.Locks.length:Int) then((idx a1.Locks s29).bind fun v32=>((jp v32).bind fun v37=>((jt a1.Own v37).bind fun v39=>(if v39=true then((yr a1.Wounded v32.Tx).bind fun v42=>(if v42=true then((Zl kb30 s29) true) else((yr a1.Ended v32.Tx).bind fun v45=>((Zl kb30 s29) v45)))) else((Zl kb30 s29) true))))) else(kx13 ()))
def Qm(a1:zn)(t10:Unit):Option Bool:=
 (iter (YJ a1 (Z5 a1)) FU 0)
def YS(a1:zn)(kx11:(Unit→Option Bool))(kb48:(Int→Option Bool))(s47:Int):Option Bool:=
 (if s47 < (a1.Cells.length:Int) then((idx a1.Cells s47).bind fun v50=>((xf v50.Key).bind fun v52=>((jt a1.Own v52).bind fun v54=>(if v54=true then(kb48 (IntKind.wrap .i64 (s47+1))) else(some false))))) else(kx11 ()))
def QR(a1:zn)(t8:Unit):Option Bool:=
 (iter (YS a1 (Qm a1)) FU 0)
def Yz(a1:zn)(kx9:(Unit→Option Bool))(kb58:(Int→Option Bool))(s57:Int):Option Bool:=
 (if s57 < (a1.Frozen.length:Int) then((idx a1.Frozen s57).bind fun v60=>((jt a1.Own v60).bind fun v62=>(if v62=true then(kb58 (IntKind.wrap .i64 (s57+1))) else(some false)))) else(kx9 ()))
def jA(a1:zn)(t5:Bool):Option Bool:=
 (if t5=true then(some false) else(iter (Yz a1 (QR a1)) FU 0))
def jz(a1:zn)(t2:Bool):Option Bool:=
 (if t2=true then(some false) else(if 60 < (a1.Helds.length:Int) then((jA a1) true) else(if 60 < (a1.Wounded.length:Int) then((jA a1) true) else(if 60 < (a1.Ended.length:Int) then((jA a1) true) else((Ja a1.Wounded).bind fun v68=>(if v68=true then((Ja a1.Ended).bind fun v71=>((jA a1) (!v71))) else((jA a1) true)))))))
def Ya(a1:zn):Option Bool:=
 ((yu a1.Me 0 3).bind fun v73=>(if v73=true then((yh a1.Own).bind fun v76=>(if v76=true then((yh a1.Frozen).bind fun v79=>(if v79=true then((Qd a1.Cells).bind fun v82=>(if v82=true then((J0 a1.Locks).bind fun v85=>(if v85=true then((yu a1.Rank 0 1000000).bind fun v88=>((jz a1) (!v88))) else((jz a1) true))) else((jz a1) true))) else((jz a1) true))) else((jz a1) true))) else((jz a1) true)))
def Zz(a2:Int)(a1:zn)(t4:Bool):Option Int:=
 (if t4=true then(some 1) else(if a2 < a1.Rank then(some 2) else(some 0)))
def JO(a1:zn)(a2:Int)(a3:ze):Option Int:=
 ((Ya a1).bind fun v8=>(if v8=true then((yu a2 1 1000000).bind fun v11=>(if v11=true then((qN a3).bind fun v14=>((Zz a2 a1) (!v14))) else((Zz a2 a1) true))) else((Zz a2 a1) true)))
def xB(a1:zn)(t6:(List zL)):Option zn:=
 (if a1.Wounded.length≤2147483648 then(if a1.Ended.length≤2147483648 then(some (zn.mk a1.Me a1.Own a1.Frozen a1.Cells a1.Locks t6 a1.Wounded a1.Ended a1.Rank)) else none) else none)
def YP(a1:zn)(kx7:((List zL)→Option zn))(kb11:((Int×(List zL))→Option zn))(s10:(Int×(List zL))):Option zn:=
 (if s10.1 < (a1.Helds.length:Int) then((idx a1.Helds s10.1).bind fun v13=>(if v13.Writes.length≤2147483648 then(if (s10.2++[v13]).length≤2147483648 then(kb11 ((IntKind.wrap .i64 (s10.1+1)),(s10.2++[v13]))) else none) else none)) else(kx7 s10.2))
def Qn(a1:zn):Option zn:=
 (if a1.Own.length≤2147483648 then(if a1.Frozen.length≤2147483648 then(if a1.Cells.length≤2147483648 then(if a1.Locks.length≤2147483648 then(iter (YP a1 (xB a1)) FU (0,([]:List zL))) else none) else none) else none) else none)
def ZG(a1:zn)(a2:Int):Option zn:=
 (if a2=1 then(some (zn.mk 0 ([]:(List ze)) ([]:(List ze)) ([]:(List zu)) ([]:(List zK)) ([]:(List zL)) ([]:(List Int)) ([]:(List Int)) 0)) else((Qn a1).bind fun v4=>(some v4)))
def kP(t3:Unit):Option Bool:=
 (some false)
def YF(a1:(List ze))(a2:ze)(kx4:(Unit→Option Bool))(kb6:(Int→Option Bool))(s5:Int):Option Bool:=
 (if s5 < (a1.length:Int) then((idx a1 s5).bind fun v8=>((y7 v8 a2).bind fun v10=>(if v10.2=true then(some true) else(kb6 (IntKind.wrap .i64 (s5+1)))))) else(kx4 ()))
def QT(a1:(List ze))(a2:ze):Option Bool:=
 (iter (YF a1 a2 kP) FU 0)
def Za(t12:(List ze)):Option ((List ze)×Bool):=
 (if 16 < ((t12.length:Nat):Int) then(some (([]:(List ze)),false)) else(some (t12,true)))
def Qc(s15:((List ze)×Int×Int))(t18:Int)(kb16:(((List ze)×Int×Int)→Option ((List ze)×Bool)))(t20:Bool):Option ((List ze)×Bool):=
 (if t20=true then(if (s15.1++([(ze.mk t18 s15.2.2)])).length≤2147483648 then(kb16 ((s15.1++([(ze.mk t18 s15.2.2)])),(-1),(IntKind.wrap .i64 (s15.2.2+1)))) else none) else(kb16 (s15.1,t18,(IntKind.wrap .i64 (s15.2.2+1)))))
def Zh(t10:(List Bool))(s15:((List ze)×Int×Int))(kb16:(((List ze)×Int×Int)→Option ((List ze)×Bool)))(t18:Int):Option ((List ze)×Bool):=
 ((idx t10 s15.2.2).bind fun v24=>(if v24=true then((Qc s15 t18 kb16) false) else((Qc s15 t18 kb16) (decide (0≤t18)))))
def Z8(kx19:(Int→Option ((List ze)×Bool)))(s15:((List ze)×Int×Int))(t27:Bool):Option ((List ze)×Bool):=
 (if t27=true then(kx19 s15.2.2) else(kx19 s15.2.1))
def Z7(t10:(List Bool))(kx13:((List ze)→Option ((List ze)×Bool)))(kb16:(((List ze)×Int×Int)→Option ((List ze)×Bool)))(s15:((List ze)×Int×Int)):Option ((List ze)×Bool):=
 (if s15.2.2≤1000 then((idx t10 s15.2.2).bind fun v30=>(if v30=true then((Z8 (Zh t10 s15 kb16) s15) (decide (s15.2.1 < 0))) else((Z8 (Zh t10 s15 kb16) s15) false))) else(kx13 s15.1))
def Ql(t10:(List Bool)):Option ((List ze)×Bool):=
 (iter (Z7 t10 Za) FU (([]:List ze),(-1),0))
def Yn(a2:ze)(a3:Bool)(kx11:((List Bool)→Option ((List ze)×Bool)))(kb34:(((List Bool)×Int)→Option ((List ze)×Bool)))(s33:((List Bool)×Int)):Option ((List ze)×Bool):=
 (if s33.2 < a2.Hi then((idx s33.1 s33.2).bind fun v36=>(kb34 (s33.1.set (Int.toNat s33.2) a3,(IntKind.wrap .i64 (s33.2+1))))) else(kx11 s33.1))
def xk(a2:ze)(a3:Bool)(t8:(List Bool)):Option ((List ze)×Bool):=
 (iter (Yn a2 a3 Ql) FU (t8,a2.Lo))
def Z2(kb39:(((List Bool)×Int)→Option ((List ze)×Bool)))(s38:((List Bool)×Int))(t41:(List Bool)):Option ((List ze)×Bool):=
 (kb39 (t41,(IntKind.wrap .i64 (s38.2+1))))
def Yu(a1:(List ze))(s38:((List Bool)×Int))(kx42:((List Bool)→Option ((List ze)×Bool)))(kb46:(((List Bool)×Int)→Option ((List ze)×Bool)))(s45:((List Bool)×Int)):Option ((List ze)×Bool):=
 ((idx a1 s38.2).bind fun v47=>(if s45.2 < v47.Hi then((idx s45.1 s45.2).bind fun v50=>(kb46 (s45.1.set (Int.toNat s45.2) true,(IntKind.wrap .i64 (s45.2+1))))) else(kx42 s45.1)))
def ZU(a1:(List ze))(kx9:((List Bool)→Option ((List ze)×Bool)))(kb39:(((List Bool)×Int)→Option ((List ze)×Bool)))(s38:((List Bool)×Int)):Option ((List ze)×Bool):=
 (if s38.2 < (a1.length:Int) then((idx a1 s38.2).bind fun v43=>(iter (Yu a1 s38 (Z2 kb39 s38)) FU (s38.1,v43.Lo))) else(kx9 s38.1))
def yL(a1:(List ze))(a2:ze)(a3:Bool)(t4:Bool):Option ((List ze)×Bool):=
 (if t4=true then(some (([]:(List ze)),false)) else(if (0:Int)≤1001∧(1001:Int)≤2147483648 then(iter (ZU a1 (xk a2 a3)) FU ((List.replicate (Int.toNat 1001) false),0)) else none))
def Yd(a1:(List ze))(a2:ze)(a3:Bool):Option ((List ze)×Bool):=
 ((yh a1).bind fun v52=>(if v52=true then((qN a2).bind fun v55=>((yL a1 a2 a3) (!v55))) else((yL a1 a2 a3) true)))
def ZJ(a1:(List ze))(a2:ze):Option ((List ze)×Bool):=
 ((Yd a1 a2 false).bind fun v3=>(some (v3.1,v3.2)))
def Zq(v9:zn)(a1:zn)(a3:ze)(a2:Int)(t11:Bool):Option (zn×Int):=
 (if t11=true then(some (v9,0)) else((jt a1.Frozen a3).bind fun v14=>(if v14=true then((ZJ a1.Frozen a3).bind fun v17=>(if v17.2=true then(some ((zn.mk v9.Me v9.Own v17.1 v9.Cells v9.Locks v9.Helds v9.Wounded v9.Ended a2),0)) else(some (v9,6)))) else(some (v9,4)))))
def Qb(a1:zn)(a2:Int)(a3:ze):Option (zn×Int):=
 ((JO a1 a2 a3).bind fun v4=>(if ¬v4=0 then((ZG a1 v4).bind fun v7=>(some (v7,v4))) else((Qn a1).bind fun v9=>(if a2=a1.Rank then((QT a1.Frozen a3).bind fun v21=>((Zq v9 a1 a3 a2) (!v21))) else((Zq v9 a1 a3 a2) false)))))
def yj(a1:Int)(a2:Int)(a3:Int):Option Bool:=
 (if a2≤a1 then(some (decide (a1≤a3))) else(some false))
def J4(a1:Int):Option Bool:=
 ((yj a1 0 3).bind fun v2=>(some v2))
def yf(a1:ze):Option Bool:=
 (if 0≤a1.Lo then(if a1.Lo < a1.Hi then(some (decide (a1.Hi≤1000))) else(some false)) else(some false))
def Yw(a1:(List ze))(t2:Unit):Option Bool:=
 (some (decide ((a1.length:Int)≤16)))
def Zn(kb5:(Int→Option Bool))(s4:Int)(t9:Bool):Option Bool:=
 (if t9=true then(some false) else(kb5 (IntKind.wrap .i64 (s4+1))))
def Yt(a1:(List ze))(kx3:(Unit→Option Bool))(kb5:(Int→Option Bool))(s4:Int):Option Bool:=
 (if s4 < (a1.length:Int) then((idx a1 s4).bind fun v7=>((yf v7).bind fun v12=>(if v12=true then(if 0 < s4 then((idx a1 (IntKind.wrap .i64 (s4 - 1))).bind fun v16=>((Zn kb5 s4) (decide (v7.Lo < v16.Hi)))) else((Zn kb5 s4) false)) else((Zn kb5 s4) true)))) else(kx3 ()))
def yP(a1:(List ze)):Option Bool:=
 (iter (Yt a1 (Yw a1)) FU 0)
def Ys(a1:Int):Option Bool:=
 ((yj a1 0 999).bind fun v2=>(some v2))
def JT(a1:Int):Option Bool:=
 ((yj a1 0 1000000000).bind fun v2=>(some v2))
def xn(a1:(List zu))(t2:Unit):Option Bool:=
 (some (decide ((a1.length:Int)≤60)))
def yS(kb5:(Int→Option Bool))(s4:Int)(t9:Bool):Option Bool:=
 (if t9=true then(some false) else(kb5 (IntKind.wrap .i64 (s4+1))))
def xE(a1:(List zu))(kx3:(Unit→Option Bool))(kb5:(Int→Option Bool))(s4:Int):Option Bool:=
 (if s4 < (a1.length:Int) then((idx a1 s4).bind fun v7=>((Ys v7.Key).bind fun v12=>(if v12=true then((JT v7.Value).bind fun v15=>(if v15=true then(if 0 < s4 then((idx a1 (IntKind.wrap .i64 (s4 - 1))).bind fun v19=>((yS kb5 s4) (decide (v7.Key≤v19.Key)))) else((yS kb5 s4) false)) else((yS kb5 s4) true))) else((yS kb5 s4) true)))) else(kx3 ()))
def Qh(a1:(List zu)):Option Bool:=
 (iter (xE a1 (xn a1)) FU 0)
def xT(a1:Int):Option Bool:=
 ((yj a1 1 60).bind fun v2=>(some v2))
def qZ(a1:zK):Option ze:=
 (some (ze.mk a1.Lo a1.Hi))
def Q7(a1:Int):Option Bool:=
 (if a1=1 then(some true) else(some (decide (a1=2))))
def QO(a1:ze)(a2:ze):Option Bool:=
 (if a1.Lo < a2.Hi then(some (decide (a2.Lo < a1.Hi))) else(some false))
def kl(a1:zK)(a2:zK):Option Bool:=
 (if ¬a1.Tx=a2.Tx then(if a1.Mode=2 then((qZ a1).bind fun v5=>((qZ a2).bind fun v7=>((QO v5 v7).bind fun v9=>(some v9)))) else(if a2.Mode=2 then((qZ a1).bind fun v12=>((qZ a2).bind fun v14=>((QO v12 v14).bind fun v16=>(some v16)))) else(some false))) else(some false))
def Z9(a1:zK)(a2:zK):Option Bool:=
 ((kl a2 a1).bind fun v3=>(some v3))
def jV(t3:Unit):Option Int:=
 (some (-1))
def jd(a1:(List zK))(a2:zK)(kx4:(Unit→Option Int))(kb6:(Int→Option Int))(s5:Int):Option Int:=
 (if s5 < (a1.length:Int) then((idx a1 s5).bind fun v8=>((Z9 v8 a2).bind fun v10=>(if v10=true then(some s5) else(kb6 (IntKind.wrap .i64 (s5+1)))))) else(kx4 ()))
def jl(a1:(List zK))(a2:zK):Option Int:=
 (iter (jd a1 a2 jV) FU 0)
def qw(a1:(List zK))(a2:zK):Option Bool:=
 ((jl a1 a2).bind fun v3=>(some (decide (0≤v3))))
def xp(a1:(List zK))(t2:Unit):Option Bool:=
 (some (decide ((a1.length:Int)≤40)))
def yM(kb5:(Int→Option Bool))(s4:Int)(t9:Bool):Option Bool:=
 (if t9=true then(some false) else(kb5 (IntKind.wrap .i64 (s4+1))))
def xr(a1:(List zK))(kx3:(Unit→Option Bool))(kb5:(Int→Option Bool))(s4:Int):Option Bool:=
 (if s4 < (a1.length:Int) then((idx a1 s4).bind fun v7=>((xT v7.Tx).bind fun v12=>(if v12=true then((qZ v7).bind fun v15=>((yf v15).bind fun v17=>(if v17=true then((Q7 v7.Mode).bind fun v20=>(if v20=true then((cut a1 0 s4).bind fun v23=>((qw v23 v7).bind fun v25=>((yM kb5 s4) v25))) else((yM kb5 s4) true))) else((yM kb5 s4) true)))) else((yM kb5 s4) true)))) else(kx3 ()))
def ZW(a1:(List zK)):Option Bool:=
 (iter (xr a1 (xp a1)) FU 0)
def Q3(a1:Int):Option Bool:=
 ((yj a1 (-1) 1000000000).bind fun v2=>(some v2))
def Yo(a1:(List zu))(t2:Unit):Option Bool:=
 (some (decide ((a1.length:Int)≤60)))
def yo(kb5:(Int→Option Bool))(s4:Int)(t9:Bool):Option Bool:=
 (if t9=true then(some false) else(kb5 (IntKind.wrap .i64 (s4+1))))
def YD(a1:(List zu))(kx3:(Unit→Option Bool))(kb5:(Int→Option Bool))(s4:Int):Option Bool:=
 (if s4 < (a1.length:Int) then((idx a1 s4).bind fun v7=>((Ys v7.Key).bind fun v12=>(if v12=true then((Q3 v7.Value).bind fun v15=>(if v15=true then(if 0 < s4 then((idx a1 (IntKind.wrap .i64 (s4 - 1))).bind fun v19=>((yo kb5 s4) (decide (v7.Key≤v19.Key)))) else((yo kb5 s4) false)) else((yo kb5 s4) true))) else((yo kb5 s4) true)))) else(kx3 ()))
def Zu(a1:(List zu)):Option Bool:=
 (iter (YD a1 (Yo a1)) FU 0)
def Kh(a1:Int):Option ze:=
 (some (ze.mk a1 (IntKind.wrap .i64 (a1+1))))
def Zr(a1:zK)(a2:Int)(a3:Int)(a4:ze):Option Bool:=
 (if a1.Tx=a2 then(if a1.Mode=a3 then(if a1.Lo≤a4.Lo then(some (decide (a4.Hi≤a1.Hi))) else(some false)) else(if a1.Mode=2 then(if a1.Lo≤a4.Lo then(some (decide (a4.Hi≤a1.Hi))) else(some false)) else(some false))) else(some false))
def jC(t5:Unit):Option Int:=
 (some (-1))
def qR(a1:(List zK))(a2:Int)(a3:Int)(a4:ze)(kx6:(Unit→Option Int))(kb8:(Int→Option Int))(s7:Int):Option Int:=
 (if s7 < (a1.length:Int) then((idx a1 s7).bind fun v10=>((Zr v10 a2 a3 a4).bind fun v12=>(if v12=true then(some s7) else(kb8 (IntKind.wrap .i64 (s7+1)))))) else(kx6 ()))
def qU(a1:(List zK))(a2:Int)(a3:Int)(a4:ze):Option Int:=
 (iter (qR a1 a2 a3 a4 jC) FU 0)
def qo(a1:(List zK))(a2:Int)(a3:Int)(a4:ze):Option Bool:=
 ((qU a1 a2 a3 a4).bind fun v5=>(some (decide (0≤v5))))
def Z3(a1:(List zK))(a2:Int)(a3:ze)(a4:Int):Option Bool:=
 ((ZW a1).bind fun v5=>(if v5=true then((yf a3).bind fun v8=>(if v8=true then((Q7 a4).bind fun v11=>(if v11=true then((qo a1 a2 a4 a3).bind fun v14=>(some v14)) else(some false))) else(some false))) else(some false)))
def Qg(a1:zu)(a2:zn)(a3:zL):Option Bool:=
 ((Kh a1.Key).bind fun v4=>((Z3 a2.Locks a3.Tx v4 2).bind fun v6=>(some (!v6))))
def jN(t4:Unit):Option Int:=
 (some (-1))
def qV(a1:(List zu))(a2:zn)(a3:zL)(kx5:(Unit→Option Int))(kb7:(Int→Option Int))(s6:Int):Option Int:=
 (if s6 < (a1.length:Int) then((idx a1 s6).bind fun v9=>((Qg v9 a2 a3).bind fun v11=>(if v11=true then(some s6) else(kb7 (IntKind.wrap .i64 (s6+1)))))) else(kx5 ()))
def jc(a1:(List zu))(a2:zn)(a3:zL):Option Int:=
 (iter (qV a1 a2 a3 jN) FU 0)
def qt(a1:(List zu))(a2:zn)(a3:zL):Option Bool:=
 ((jc a1 a2 a3).bind fun v4=>(some (decide (0≤v4))))
def Xl(t2:(List Int)):Option (List Int):=
 (some t2)
def Xm(a1:(List zL))(kx3:((List Int)→Option (List Int)))(kb5:(((List Int)×Int)→Option (List Int)))(s4:((List Int)×Int)):Option (List Int):=
 (if s4.2 < (a1.length:Int) then((idx a1 s4.2).bind fun v7=>(if (s4.1++([v7.Tx])).length≤2147483648 then(kb5 ((s4.1++([v7.Tx])),(IntKind.wrap .i64 (s4.2+1)))) else none)) else(kx3 s4.1))
def YU(a1:(List zL)):Option (List Int):=
 (iter (Xm a1 Xl) FU (([]:List Int),0))
def ks(t2:Unit):Option Bool:=
 (some true)
def yI(kb5:(Int→Option Bool))(s4:Int)(t9:Bool):Option Bool:=
 (if t9=true then(some false) else(kb5 (IntKind.wrap .i64 (s4+1))))
def Jc(a1:(List Int))(kx3:(Unit→Option Bool))(kb5:(Int→Option Bool))(s4:Int):Option Bool:=
 (if s4 < (a1.length:Int) then((idx a1 s4).bind fun v7=>((xT v7).bind fun v12=>(if v12=true then(if 0 < s4 then((idx a1 (IntKind.wrap .i64 (s4 - 1))).bind fun v16=>((yI kb5 s4) (decide (v7≤v16)))) else((yI kb5 s4) false)) else((yI kb5 s4) true)))) else(kx3 ()))
def yq(a1:(List Int)):Option Bool:=
 (iter (Jc a1 ks) FU 0)
def xi(a1:zn)(t2:Unit):Option Bool:=
 ((YU a1.Helds).bind fun v4=>((yq v4).bind fun v6=>(some v6)))
def Qo(kb9:(Int→Option Bool))(s8:Int)(t13:Bool):Option Bool:=
 (if t13=true then(some false) else(kb9 (IntKind.wrap .i64 (s8+1))))
def xI(a1:zn)(kx3:(Unit→Option Bool))(kb9:(Int→Option Bool))(s8:Int):Option Bool:=
 (if s8 < (a1.Helds.length:Int) then((idx a1.Helds s8).bind fun v11=>((Zu v11.Writes).bind fun v16=>(if v16=true then((qt v11.Writes a1 v11).bind fun v19=>((Qo kb9 s8) v19)) else((Qo kb9 s8) true)))) else(kx3 ()))
def Jw(a1:zn):Option Bool:=
 (iter (xI a1 (xi a1)) FU 0)
def xt(a2:ze)(t3:Int):Option Bool:=
 (some (decide (a2.Hi≤t3)))
def ZY(kb6:((Int×Int)→Option Bool))(v8:ze)(s5:(Int×Int))(t10:Bool):Option Bool:=
 (if t10=true then(kb6 (v8.Hi,(IntKind.wrap .i64 (s5.2+1)))) else(kb6 (s5.1,(IntKind.wrap .i64 (s5.2+1)))))
def xh(a1:(List ze))(kx4:(Int→Option Bool))(kb6:((Int×Int)→Option Bool))(s5:(Int×Int)):Option Bool:=
 (if s5.2 < (a1.length:Int) then((idx a1 s5.2).bind fun v8=>(if v8.Lo≤s5.1 then((ZY kb6 v8 s5) (decide (s5.1 < v8.Hi))) else((ZY kb6 v8 s5) false))) else(kx4 s5.1))
def yz(a1:(List ze))(a2:ze):Option Bool:=
 (iter (xh a1 (xt a2)) FU (a2.Lo,0))
def ZZ(a1:ze)(a2:zn):Option Bool:=
 ((yz a2.Own a1).bind fun v3=>(some (!v3)))
def jM(t3:Unit):Option Int:=
 (some (-1))
def qX(a1:(List ze))(a2:zn)(kx4:(Unit→Option Int))(kb6:(Int→Option Int))(s5:Int):Option Int:=
 (if s5 < (a1.length:Int) then((idx a1 s5).bind fun v8=>((ZZ v8 a2).bind fun v10=>(if v10=true then(some s5) else(kb6 (IntKind.wrap .i64 (s5+1)))))) else(kx4 ()))
def jh(a1:(List ze))(a2:zn):Option Int:=
 (iter (qX a1 a2 jM) FU 0)
def qq(a1:(List ze))(a2:zn):Option Bool:=
 ((jh a1 a2).bind fun v3=>(some (decide (0≤v3))))
def Z4(a1:zu)(a2:zn):Option Bool:=
 ((Kh a1.Key).bind fun v3=>((yz a2.Own v3).bind fun v5=>(some (!v5))))
def jU(t3:Unit):Option Int:=
 (some (-1))
def je(a1:(List zu))(a2:zn)(kx4:(Unit→Option Int))(kb6:(Int→Option Int))(s5:Int):Option Int:=
 (if s5 < (a1.length:Int) then((idx a1 s5).bind fun v8=>((Z4 v8 a2).bind fun v10=>(if v10=true then(some s5) else(kb6 (IntKind.wrap .i64 (s5+1)))))) else(kx4 ()))
def jk(a1:(List zu))(a2:zn):Option Int:=
 (iter (je a1 a2 jU) FU 0)
def qx(a1:(List zu))(a2:zn):Option Bool:=
 ((jk a1 a2).bind fun v3=>(some (decide (0≤v3))))
def kB(a1:List Int)(a2:Int):Option (List Int):=
 if 0≤a2∧a2≤1000000000 then some [] else none
def ZF(t6:(List Int)):Option (List Int):=
 (some t6)
def ZA(a1:(List (List Int)))(kx7:((List Int)→Option (List Int)))(kb9:(((List Int)×Int)→Option (List Int)))(s8:((List Int)×Int)):Option (List Int):=
 (if s8.2 < (a1.length:Int) then((idx a1 s8.2).bind fun v11=>(if (s8.1++v11).length≤2147483648 then(kb9 ((s8.1++v11),(IntKind.wrap .i64 (s8.2+1)))) else none)) else(kx7 s8.1))
def ZB(a1:(List (List Int)))(t2:Int):Option (List Int):=
 ((kB ([]:(List Int)) t2).bind fun v4=>(iter (ZA a1 ZF) FU (v4,0)))
def Zt(a1:(List (List Int)))(kx3:(Int→Option (List Int)))(kb15:((Int×Int)→Option (List Int)))(s14:(Int×Int)):Option (List Int):=
 (if s14.2 < (a1.length:Int) then((idx a1 s14.2).bind fun v17=>(if (IntKind.wrap .i64 (s14.1+(v17.length:Int))) < 0 then none else(kb15 ((IntKind.wrap .i64 (s14.1+(v17.length:Int))),(IntKind.wrap .i64 (s14.2+1)))))) else(kx3 s14.1))
def yX(a1:(List (List Int))):Option (List Int):=
 (iter (Zt a1 (ZB a1)) FU (0,0))
def YZ(t3:Unit):Option Int:=
 (some (-1))
def ZR(a1:(List Int))(a2:Int)(kx4:(Unit→Option Int))(kb6:(Int→Option Int))(s5:Int):Option Int:=
 (if s5 < (a1.length:Int) then((idx a1 s5).bind fun v8=>(if a2=v8 then(some s5) else(kb6 (IntKind.wrap .i64 (s5+1))))) else(kx4 ()))
def QF(a1:(List Int))(a2:Int):Option Int:=
 (iter (ZR a1 a2 YZ) FU 0)
def ym(a1:(List Int))(a2:Int):Option Bool:=
 ((QF a1 a2).bind fun v3=>(some (decide (0≤v3))))
def Qi(a1:zK)(a2:zn)(a3:(List Int)):Option Bool:=
 ((qZ a1).bind fun v4=>((yz a2.Own v4).bind fun v6=>(if v6=true then((ym a3 a1.Tx).bind fun v9=>(some v9)) else(some true))))
def jY(t4:Unit):Option Int:=
 (some (-1))
def jg(a1:(List zK))(a2:zn)(a3:(List Int))(kx5:(Unit→Option Int))(kb7:(Int→Option Int))(s6:Int):Option Int:=
 (if s6 < (a1.length:Int) then((idx a1 s6).bind fun v9=>((Qi v9 a2 a3).bind fun v11=>(if v11=true then(some s6) else(kb7 (IntKind.wrap .i64 (s6+1)))))) else(kx5 ()))
def jn(a1:(List zK))(a2:zn)(a3:(List Int)):Option Int:=
 (iter (jg a1 a2 a3 jY) FU 0)
def qy(a1:(List zK))(a2:zn)(a3:(List Int)):Option Bool:=
 ((jn a1 a2 a3).bind fun v4=>(some (decide (0≤v4))))
def kh(a1:List Int):Option (List Int):=
 if a1.length≤1000000000 then some (zbg a1) else none
def yg(a1:(List Int))(t2:Unit):Option (List Int):=
 (if a1.length≤2147483648 then(some a1) else none)
def j5(a1:(List Int)):Option (List Int):=
 (if a1.length=0 then((yg a1) ()) else((yg a1) ()))
def J7(a1:List Int):Option (List Int):=
 if a1.length≤1000000000 then some (Go.Lib.compact a1) else none
def Zf(a1:zu)(a2:Int):Option Int:=
 (some (IntKind.wrap .i64 (a1.Key - a2)))
def zW(a1:(List zu))(a2:Int)(t3:Int):Option (Int×Bool):=
 (if t3 < (a1.length:Int) then((idx a1 t3).bind fun v6=>((Zf v6 a2).bind fun v8=>(some (t3,(decide (v8=0)))))) else(some (t3,false)))
def z6(a1:(List zu))(a2:Int)(kx4:(Int→Option (Int×Bool)))(kb11:((Int×Int)→Option (Int×Bool)))(s10:(Int×Int)):Option (Int×Bool):=
 (if s10.1 < s10.2 then((idx a1 (IntKind.wrap .i64 (Int.fdiv (IntKind.wrap .u64 (IntKind.wrap .i64 (s10.1+s10.2))) (2 ^ (min (Int.toNat 1) (IntKind.bits .u64)))))).bind fun v13=>((Zf v13 a2).bind fun v15=>(if v15 < 0 then(kb11 ((IntKind.wrap .i64 ((IntKind.wrap .i64 (Int.fdiv (IntKind.wrap .u64 (IntKind.wrap .i64 (s10.1+s10.2))) (2 ^ (min (Int.toNat 1) (IntKind.bits .u64)))))+1)),s10.2)) else(kb11 (s10.1,(IntKind.wrap .i64 (Int.fdiv (IntKind.wrap .u64 (IntKind.wrap .i64 (s10.1+s10.2))) (2 ^ (min (Int.toNat 1) (IntKind.bits .u64)))))))))) else(kx4 s10.1))
def qu(a1:(List zu))(a2:Int):Option (Int×Bool):=
 (iter (z6 a1 a2 (zW a1 a2)) FU (0,(a1.length:Int)))
def JL(a1:(List zu))(a2:Int):Option (Int×Bool):=
 ((qu a1 a2).bind fun v3=>(some (v3.1,v3.2)))
def Jv(a1:(List zu))(a2:Int):Option Int:=
 ((JL a1 a2).bind fun v3=>(if v3.2=true then((idx a1 v3.1).bind fun v6=>(some v6.Value)) else(some (-1))))
def YQ(t6:Int):Option Int:=
 (some t6)
def ZH(kb9:((Int×Int)→Option Int))(s8:(Int×Int))(t13:Bool):Option Int:=
 (if t13=true then(kb9 ((IntKind.wrap .i64 (s8.1+1)),(IntKind.wrap .i64 (s8.2+1)))) else(kb9 (s8.1,(IntKind.wrap .i64 (s8.2+1)))))
def YL(a2:(List zu))(a1:(List zu))(kx7:(Int→Option Int))(kb9:((Int×Int)→Option Int))(s8:(Int×Int)):Option Int:=
 (if s8.2 < (a2.length:Int) then((idx a2 s8.2).bind fun v11=>(if ¬v11.Value=(-1) then((Jv a1 v11.Key).bind fun v17=>((ZH kb9 s8) (decide (v17 < 0)))) else((ZH kb9 s8) false))) else(kx7 s8.1))
def Qq(a2:(List zu))(a1:(List zu))(t3:Bool):Option Int:=
 (if t3=true then(some (-1)) else(iter (YL a2 a1 YQ) FU (0,0)))
def Q1(a1:(List zu))(a2:(List zu)):Option Int:=
 ((Qh a1).bind fun v19=>(if v19=true then((Zu a2).bind fun v22=>((Qq a2 a1) (!v22))) else((Qq a2 a1) true)))
def XQ(t2:Int):Option Int:=
 (some t2)
def XU(a1:zn)(kx3:(Int→Option Int))(kb5:((Int×Int)→Option Int))(s4:(Int×Int)):Option Int:=
 (if s4.2 < (a1.Helds.length:Int) then((idx a1.Helds s4.2).bind fun v7=>((Q1 a1.Cells v7.Writes).bind fun v9=>(kb5 ((IntKind.wrap .i64 (s4.1+v9)),(IntKind.wrap .i64 (s4.2+1)))))) else(kx3 s4.1))
def Xv(a1:zn):Option Int:=
 (iter (XU a1 XQ) FU ((a1.Cells.length:Int),0))
def yN(a1:zn)(t5:Bool):Option Bool:=
 (if t5=true then(some false) else((yX ([a1.Wounded,a1.Ended])).bind fun v8=>((qy a1.Locks a1 v8).bind fun v10=>(if v10=true then(some false) else((YU a1.Helds).bind fun v13=>(if (v13++v8).length≤2147483648 then((kh (v13++v8)).bind fun v16=>(if v16.length=(v13++v8).length then((j5 v16).bind fun v19=>((J7 v19).bind fun v21=>(if (v21.length:Int)=(((v13++v8).length:Nat):Int) then((Xv a1).bind fun v24=>(some (decide (v24≤60)))) else(some false)))) else none)) else none))))))
def qD(a1:zn)(t2:Bool):Option Bool:=
 (if t2=true then(some false) else((qq a1.Frozen a1).bind fun v26=>(if v26=true then((yN a1) true) else((qx a1.Cells a1).bind fun v29=>((yN a1) v29)))))
def Z1(a1:zn):Option Bool:=
 ((J4 a1.Me).bind fun v31=>(if v31=true then((yP a1.Own).bind fun v34=>(if v34=true then((yP a1.Frozen).bind fun v37=>(if v37=true then((Qh a1.Cells).bind fun v40=>(if v40=true then((ZW a1.Locks).bind fun v43=>(if v43=true then((Jw a1).bind fun v46=>(if v46=true then((yq a1.Wounded).bind fun v49=>(if v49=true then((yq a1.Ended).bind fun v52=>(if v52=true then((yj a1.Rank 0 1000000).bind fun v55=>((qD a1) (!v55))) else((qD a1) true))) else((qD a1) true))) else((qD a1) true))) else((qD a1) true))) else((qD a1) true))) else((qD a1) true))) else((qD a1) true))) else((qD a1) true)))
def Zy(a2:Int)(a1:zn)(t4:Bool):Option Int:=
 (if t4=true then(some 1) else(if a2 < a1.Rank then(some 2) else(some 0)))
def JI(a1:zn)(a2:Int)(a3:ze):Option Int:=
 ((Z1 a1).bind fun v8=>(if v8=true then((yj a2 1 1000000).bind fun v11=>(if v11=true then((yf a3).bind fun v14=>((Zy a2 a1) (!v14))) else((Zy a2 a1) true))) else((Zy a2 a1) true)))
def jT(a1:(List ze))(t2:Unit):Option (List ze):=
 (if a1.length≤2147483648 then(some a1) else none)
def j6(a1:(List ze)):Option (List ze):=
 (if a1.length=0 then((jT a1) ()) else((jT a1) ()))
def yb(a1:(List zu))(t2:Unit):Option (List zu):=
 (if a1.length≤2147483648 then(some a1) else none)
def yU(a1:(List zu)):Option (List zu):=
 (if a1.length=0 then((yb a1) ()) else((yb a1) ()))
def j8(a1:(List zK))(t2:Unit):Option (List zK):=
 (if a1.length≤2147483648 then(some a1) else none)
def yY(a1:(List zK)):Option (List zK):=
 (if a1.length=0 then((j8 a1) ()) else((j8 a1) ()))
def jS(a1:(List zu))(t2:Unit):Option (List zu):=
 (if a1.length≤2147483648 then(some a1) else none)
def yt(a1:(List zu)):Option (List zu):=
 (if a1.length=0 then((jS a1) ()) else((jS a1) ()))
def QL(a1:zn)(v2:(List ze))(v4:(List ze))(v6:(List zu))(v8:(List zK))(v10:(List Int))(v12:(List Int))(t14:(List zL)):Option zn:=
 (some (zn.mk a1.Me v2 v4 v6 v8 t14 v10 v12 a1.Rank))
def Qu(a1:zn)(kx15:((List zL)→Option zn))(kb17:((Int×(List zL))→Option zn))(s16:(Int×(List zL))):Option zn:=
 (if s16.1 < (a1.Helds.length:Int) then((idx a1.Helds s16.1).bind fun v19=>((yt v19.Writes).bind fun v21=>(if (s16.2++[(zL.mk v19.Tx v21)]).length≤2147483648 then(kb17 ((IntKind.wrap .i64 (s16.1+1)),(s16.2++[(zL.mk v19.Tx v21)]))) else none))) else(kx15 s16.2))
def j7(a1:zn):Option zn:=
 ((j6 a1.Own).bind fun v2=>((j6 a1.Frozen).bind fun v4=>((yU a1.Cells).bind fun v6=>((yY a1.Locks).bind fun v8=>((j5 a1.Wounded).bind fun v10=>((j5 a1.Ended).bind fun v12=>(iter (Qu a1 (QL a1 v2 v4 v6 v8 v10 v12)) FU (0,([]:List zL)))))))))
def JD(a1:zn)(a2:Int):Option (zn×Int):=
 (if a2=1 then(some ((zn.mk 0 ([]:(List ze)) ([]:(List ze)) ([]:(List zu)) ([]:(List zK)) ([]:(List zL)) ([]:(List Int)) ([]:(List Int)) 0),1)) else((j7 a1).bind fun v4=>(some (v4,a2))))
def Yx(a1:ze)(a2:ze):Option Bool:=
 ((QO a2 a1).bind fun v3=>(some v3))
def jO(t3:Unit):Option Int:=
 (some (-1))
def qW(a1:(List ze))(a2:ze)(kx4:(Unit→Option Int))(kb6:(Int→Option Int))(s5:Int):Option Int:=
 (if s5 < (a1.length:Int) then((idx a1 s5).bind fun v8=>((Yx v8 a2).bind fun v10=>(if v10=true then(some s5) else(kb6 (IntKind.wrap .i64 (s5+1)))))) else(kx4 ()))
def jf(a1:(List ze))(a2:ze):Option Int:=
 (iter (qW a1 a2 jO) FU 0)
def qJ(a1:(List ze))(a2:ze):Option Bool:=
 ((jf a1 a2).bind fun v3=>(some (decide (0≤v3))))
def JC(a1:(List ze))(a2:ze):Option Bool:=
 ((qJ a1 a2).bind fun v3=>(some v3))
def Zd(a1:ze)(a2:Int):Option Bool:=
 ((yj a2 a1.Lo (IntKind.wrap .i64 (a1.Hi - 1))).bind fun v3=>(some v3))
def QH(a1:ze)(a2:Int):Option Bool:=
 ((Zd a1 a2).bind fun v3=>(some v3))
def jv(t3:Unit):Option Int:=
 (some (-1))
def qM(a1:(List ze))(a2:Int)(kx4:(Unit→Option Int))(kb6:(Int→Option Int))(s5:Int):Option Int:=
 (if s5 < (a1.length:Int) then((idx a1 s5).bind fun v8=>((QH v8 a2).bind fun v10=>(if v10=true then(some s5) else(kb6 (IntKind.wrap .i64 (s5+1)))))) else(kx4 ()))
def qQ(a1:(List ze))(a2:Int):Option Int:=
 (iter (qM a1 a2 jv) FU 0)
def ql(a1:(List ze))(a2:Int):Option Bool:=
 ((qQ a1 a2).bind fun v3=>(some (decide (0≤v3))))
def Z6(a1:Int)(a2:ze)(a3:Bool)(a4:(List ze)):Option Bool:=
 ((Zd a2 a1).bind fun v5=>(if v5=true then(some a3) else((ql a4 a1).bind fun v8=>(some v8))))
def yc(t4:(List ze)):Option (List ze):=
 (some t4)
def jr(s6:((List ze)×Int))(kb7:(((List ze)×Int)→Option (List ze)))(t12:Bool):Option (List ze):=
 (if t12=true then((idx s6.1 (IntKind.wrap .i64 (((s6.1.length:Nat):Int) - 1))).bind fun v15=>((idx s6.1 (IntKind.wrap .i64 (((s6.1.length:Nat):Int) - 1))).bind fun v17=>(kb7 (s6.1.set (Int.toNat (IntKind.wrap .i64 (((s6.1.length:Nat):Int) - 1))) (ze.mk v17.Lo (IntKind.wrap .i64 (v15.Hi+1))),(IntKind.wrap .i64 (s6.2+1)))))) else(if (s6.1++([(ze.mk s6.2 (IntKind.wrap .i64 (s6.2+1)))])).length≤2147483648 then(kb7 ((s6.1++([(ze.mk s6.2 (IntKind.wrap .i64 (s6.2+1)))])),(IntKind.wrap .i64 (s6.2+1)))) else none))
def yd(a1:ze)(a2:Bool)(a3:(List ze))(kx5:((List ze)→Option (List ze)))(kb7:(((List ze)×Int)→Option (List ze)))(s6:((List ze)×Int)):Option (List ze):=
 (if s6.2 < 1000 then((Z6 s6.2 a1 a2 a3).bind fun v9=>(if v9=true then(if 0 < ((s6.1.length:Nat):Int) then((idx s6.1 (IntKind.wrap .i64 (((s6.1.length:Nat):Int) - 1))).bind fun v21=>((jr s6 kb7) (decide (v21.Hi=s6.2)))) else((jr s6 kb7) false)) else(kb7 (s6.1,(IntKind.wrap .i64 (s6.2+1)))))) else(kx5 s6.1))
def jy(a1:ze)(a2:Bool)(a3:(List ze)):Option (List ze):=
 (iter (yd a1 a2 a3 yc) FU (([]:List ze),0))
def QQ(a2:ze)(a3:Bool)(a1:(List ze))(t4:Bool):Option ((List ze)×Bool):=
 (if t4=true then(some (([]:(List ze)),false)) else((jy a2 a3 a1).bind fun v7=>(if 16 < ((v7.length:Nat):Int) then(some (([]:(List ze)),false)) else(some (v7,true)))))
def Yb(a1:(List ze))(a2:ze)(a3:Bool):Option ((List ze)×Bool):=
 ((yP a1).bind fun v10=>(if v10=true then((yf a2).bind fun v13=>((QQ a2 a3 a1) (!v13))) else((QQ a2 a3 a1) true)))
def ZD(a1:(List ze))(a2:ze):Option ((List ze)×Bool):=
 ((Yb a1 a2 false).bind fun v3=>(some (v3.1,v3.2)))
def ZM(a1:zn)(a3:ze)(a2:Int)(t9:Bool):Option (zn×Int):=
 (if t9=true then((j7 a1).bind fun v12=>(some (v12,0))) else((yz a1.Frozen a3).bind fun v14=>(if v14=true then((ZD a1.Frozen a3).bind fun v17=>((j7 a1).bind fun v19=>(if v17.2=true then(some ((zn.mk v19.Me v19.Own v17.1 v19.Cells v19.Locks v19.Helds v19.Wounded v19.Ended a2),0)) else(some (v19,6))))) else((j7 a1).bind fun v22=>(some (v22,4))))))
def Ze(a1:zn)(a2:Int)(a3:ze):Option (zn×Int):=
 ((JI a1 a2 a3).bind fun v4=>(if ¬v4=0 then((JD a1 v4).bind fun v7=>(some (v7.1,v7.2))) else(if a2=a1.Rank then((JC a1.Frozen a3).bind fun v25=>((ZM a1 a3 a2) (!v25))) else((ZM a1 a3 a2) false))))
def Jy(a1:ze)(a2:ze):Option Bool:=
 (if ¬a1.Lo=a2.Lo then(some false) else(if ¬a1.Hi=a2.Hi then(some false) else(some true)))
def kZ(t4:Unit):Option Bool:=
 (some true)
def YR(a1:(List ze))(a2:(List ze))(kx5:(Unit→Option Bool))(kb7:(Int→Option Bool))(s6:Int):Option Bool:=
 (if s6 < (a1.length:Int) then((idx a1 s6).bind fun v9=>((idx a2 s6).bind fun v11=>((Jy v9 v11).bind fun v13=>(if v13=true then(kb7 (IntKind.wrap .i64 (s6+1))) else(some false))))) else(kx5 ()))
def Zw(a1:(List ze))(a2:(List ze)):Option Bool:=
 (if ¬(a1.length:Int)=(a2.length:Int) then(some false) else(iter (YR a1 a2 kZ) FU 0))
def xg(a1:zu)(a2:zu):Option Bool:=
 (if ¬a1.Key=a2.Key then(some false) else(if ¬a1.Value=a2.Value then(some false) else(some true)))
def XG(t4:Unit):Option Bool:=
 (some true)
def xF(a1:(List zu))(a2:(List zu))(kx5:(Unit→Option Bool))(kb7:(Int→Option Bool))(s6:Int):Option Bool:=
 (if s6 < (a1.length:Int) then((idx a1 s6).bind fun v9=>((idx a2 s6).bind fun v11=>((xg v9 v11).bind fun v13=>(if v13=true then(kb7 (IntKind.wrap .i64 (s6+1))) else(some false))))) else(kx5 ()))
def Jx(a1:(List zu))(a2:(List zu)):Option Bool:=
 (if ¬(a1.length:Int)=(a2.length:Int) then(some false) else(iter (xF a1 a2 XG) FU 0))
def xd(a1:zK)(a2:zK):Option Bool:=
 (if ¬a1.Tx=a2.Tx then(some false) else(if ¬a1.Lo=a2.Lo then(some false) else(if ¬a1.Hi=a2.Hi then(some false) else(if ¬a1.Mode=a2.Mode then(some false) else(some true)))))
def XE(t4:Unit):Option Bool:=
 (some true)
def xC(a1:(List zK))(a2:(List zK))(kx5:(Unit→Option Bool))(kb7:(Int→Option Bool))(s6:Int):Option Bool:=
 (if s6 < (a1.length:Int) then((idx a1 s6).bind fun v9=>((idx a2 s6).bind fun v11=>((xd v9 v11).bind fun v13=>(if v13=true then(kb7 (IntKind.wrap .i64 (s6+1))) else(some false))))) else(kx5 ()))
def JX(a1:(List zK))(a2:(List zK)):Option Bool:=
 (if ¬(a1.length:Int)=(a2.length:Int) then(some false) else(iter (xC a1 a2 XE) FU 0))
def JE(a1:zu)(a2:zu):Option Bool:=
 (if ¬a1.Key=a2.Key then(some false) else(if ¬a1.Value=a2.Value then(some false) else(some true)))
def kO(t4:Unit):Option Bool:=
 (some true)
def YE(a1:(List zu))(a2:(List zu))(kx5:(Unit→Option Bool))(kb7:(Int→Option Bool))(s6:Int):Option Bool:=
 (if s6 < (a1.length:Int) then((idx a1 s6).bind fun v9=>((idx a2 s6).bind fun v11=>((JE v9 v11).bind fun v13=>(if v13=true then(kb7 (IntKind.wrap .i64 (s6+1))) else(some false))))) else(kx5 ()))
def QX(a1:(List zu))(a2:(List zu)):Option Bool:=
 (if ¬(a1.length:Int)=(a2.length:Int) then(some false) else(iter (YE a1 a2 kO) FU 0))
def Y2(a1:zL)(a2:zL):Option Bool:=
 (if ¬a1.Tx=a2.Tx then(some false) else((QX a1.Writes a2.Writes).bind fun v4=>(if v4=true then(some true) else(some false))))
def XK(t4:Unit):Option Bool:=
 (some true)
def xo(a1:(List zL))(a2:(List zL))(kx5:(Unit→Option Bool))(kb7:(Int→Option Bool))(s6:Int):Option Bool:=
 (if s6 < (a1.length:Int) then((idx a1 s6).bind fun v9=>((idx a2 s6).bind fun v11=>((Y2 v9 v11).bind fun v13=>(if v13=true then(kb7 (IntKind.wrap .i64 (s6+1))) else(some false))))) else(kx5 ()))
def JM(a1:(List zL))(a2:(List zL)):Option Bool:=
 (if ¬(a1.length:Int)=(a2.length:Int) then(some false) else(iter (xo a1 a2 XK) FU 0))
def Kc(t4:Unit):Option Bool:=
 (some true)
def kd(a1:(List Int))(a2:(List Int))(kx5:(Unit→Option Bool))(kb7:(Int→Option Bool))(s6:Int):Option Bool:=
 (if s6 < (a1.length:Int) then((idx a1 s6).bind fun v9=>((idx a2 s6).bind fun v11=>(if ¬v9=v11 then(some false) else(kb7 (IntKind.wrap .i64 (s6+1)))))) else(kx5 ()))
def Q9(a1:(List Int))(a2:(List Int)):Option Bool:=
 (if ¬(a1.length:Int)=(a2.length:Int) then(some false) else(iter (kd a1 a2 Kc) FU 0))
def yD(a1:zn)(a2:zn):Option Bool:=
 (if ¬a1.Me=a2.Me then(some false) else((Zw a1.Own a2.Own).bind fun v4=>(if v4=true then((Zw a1.Frozen a2.Frozen).bind fun v7=>(if v7=true then((Jx a1.Cells a2.Cells).bind fun v10=>(if v10=true then((JX a1.Locks a2.Locks).bind fun v13=>(if v13=true then((JM a1.Helds a2.Helds).bind fun v16=>(if v16=true then((Q9 a1.Wounded a2.Wounded).bind fun v19=>(if v19=true then((Q9 a1.Ended a2.Ended).bind fun v22=>(if v22=true then(if ¬a1.Rank=a2.Rank then(some false) else(some true)) else(some false))) else(some false))) else(some false))) else(some false))) else(some false))) else(some false))) else(some false))))
def QE(a1:(List ze))(t3:((List ze)×Int)):Option (Int×(List ze)):=
 (if t3.1.length=a1.length then(some (t3.2,t3.1)) else none)
def Qz(kx4:(((List ze)×Int)→Option (Int×(List ze))))(kb7:(((List ze)×Int×Int)→Option (Int×(List ze))))(s6:((List ze)×Int×Int)):Option (Int×(List ze)):=
 (if s6.2.2 < ((s6.1.length:Nat):Int) then((idx s6.1 s6.2.2).bind fun v9=>((idx (s6.1.set (Int.toNat s6.2.2) (ze.mk s6.2.1 v9.Hi)) s6.2.2).bind fun v11=>(kb7 ((s6.1.set (Int.toNat s6.2.2) (ze.mk s6.2.1 v9.Hi)).set (Int.toNat s6.2.2) (ze.mk v11.Lo (IntKind.wrap .i64 (s6.2.1+1))),(IntKind.wrap .i64 ((IntKind.wrap .i64 (s6.2.1+1))+1)),(IntKind.wrap .i64 (s6.2.2+1)))))) else(kx4 (s6.1,s6.2.1)))
def jR(a1:(List ze))(a2:Int):Option (Int×(List ze)):=
 (iter (Qz (QE a1)) FU (a1,a2,0))
def Jm(a1:(List zu))(t3:((List zu)×Int)):Option (Int×(List zu)):=
 (if t3.1.length=a1.length then(some (t3.2,t3.1)) else none)
def Jk(kx4:(((List zu)×Int)→Option (Int×(List zu))))(kb7:(((List zu)×Int×Int)→Option (Int×(List zu))))(s6:((List zu)×Int×Int)):Option (Int×(List zu)):=
 (if s6.2.2 < ((s6.1.length:Nat):Int) then((idx s6.1 s6.2.2).bind fun v9=>((idx (s6.1.set (Int.toNat s6.2.2) (zu.mk s6.2.1 v9.Value)) s6.2.2).bind fun v11=>(kb7 ((s6.1.set (Int.toNat s6.2.2) (zu.mk s6.2.1 v9.Value)).set (Int.toNat s6.2.2) (zu.mk v11.Key (IntKind.wrap .i64 (s6.2.1+1))),(IntKind.wrap .i64 ((IntKind.wrap .i64 (s6.2.1+1))+1)),(IntKind.wrap .i64 (s6.2.2+1)))))) else(kx4 (s6.1,s6.2.1)))
def y6(a1:(List zu))(a2:Int):Option (Int×(List zu)):=
 (iter (Jk (Jm a1)) FU (a1,a2,0))
def Jd(a1:(List zK))(t3:((List zK)×Int)):Option (Int×(List zK)):=
 (if t3.1.length=a1.length then(some (t3.2,t3.1)) else none)
def Jg(kx4:(((List zK)×Int)→Option (Int×(List zK))))(kb7:(((List zK)×Int×Int)→Option (Int×(List zK))))(s6:((List zK)×Int×Int)):Option (Int×(List zK)):=
 (if s6.2.2 < ((s6.1.length:Nat):Int) then((idx s6.1 s6.2.2).bind fun v9=>((idx (s6.1.set (Int.toNat s6.2.2) (zK.mk s6.2.1 v9.Lo v9.Hi v9.Mode)) s6.2.2).bind fun v11=>((idx ((s6.1.set (Int.toNat s6.2.2) (zK.mk s6.2.1 v9.Lo v9.Hi v9.Mode)).set (Int.toNat s6.2.2) (zK.mk v11.Tx (IntKind.wrap .i64 (s6.2.1+1)) v11.Hi v11.Mode)) s6.2.2).bind fun v13=>((idx (((s6.1.set (Int.toNat s6.2.2) (zK.mk s6.2.1 v9.Lo v9.Hi v9.Mode)).set (Int.toNat s6.2.2) (zK.mk v11.Tx (IntKind.wrap .i64 (s6.2.1+1)) v11.Hi v11.Mode)).set (Int.toNat s6.2.2) (zK.mk v13.Tx v13.Lo (IntKind.wrap .i64 ((IntKind.wrap .i64 (s6.2.1+1))+1)) v13.Mode)) s6.2.2).bind fun v15=>(kb7 ((((s6.1.set (Int.toNat s6.2.2) (zK.mk s6.2.1 v9.Lo v9.Hi v9.Mode)).set (Int.toNat s6.2.2) (zK.mk v11.Tx (IntKind.wrap .i64 (s6.2.1+1)) v11.Hi v11.Mode)).set (Int.toNat s6.2.2) (zK.mk v13.Tx v13.Lo (IntKind.wrap .i64 ((IntKind.wrap .i64 (s6.2.1+1))+1)) v13.Mode)).set (Int.toNat s6.2.2) (zK.mk v15.Tx v15.Lo v15.Hi (IntKind.wrap .i64 ((IntKind.wrap .i64 ((IntKind.wrap .i64 (s6.2.1+1))+1))+1))),(IntKind.wrap .i64 ((IntKind.wrap .i64 ((IntKind.wrap .i64 ((IntKind.wrap .i64 (s6.2.1+1))+1))+1))+1)),(IntKind.wrap .i64 (s6.2.2+1)))))))) else(kx4 (s6.1,s6.2.1)))
def Zk(a1:(List zK))(a2:Int):Option (Int×(List zK)):=
 (iter (Jg (Jd a1)) FU (a1,a2,0))
def QM(a1:(List zu))(t3:((List zu)×Int)):Option (Int×(List zu)):=
 (if t3.1.length=a1.length then(some (t3.2,t3.1)) else none)
def QA(kx4:(((List zu)×Int)→Option (Int×(List zu))))(kb7:(((List zu)×Int×Int)→Option (Int×(List zu))))(s6:((List zu)×Int×Int)):Option (Int×(List zu)):=
 (if s6.2.2 < ((s6.1.length:Nat):Int) then((idx s6.1 s6.2.2).bind fun v9=>((idx (s6.1.set (Int.toNat s6.2.2) (zu.mk s6.2.1 v9.Value)) s6.2.2).bind fun v11=>(kb7 ((s6.1.set (Int.toNat s6.2.2) (zu.mk s6.2.1 v9.Value)).set (Int.toNat s6.2.2) (zu.mk v11.Key (IntKind.wrap .i64 (s6.2.1+1))),(IntKind.wrap .i64 ((IntKind.wrap .i64 (s6.2.1+1))+1)),(IntKind.wrap .i64 (s6.2.2+1)))))) else(kx4 (s6.1,s6.2.1)))
def ZL(a1:(List zu))(a2:Int):Option (Int×(List zu)):=
 (iter (QA (QM a1)) FU (a1,a2,0))
def Je(a1:(List zL))(t3:((List zL)×Int)):Option (Int×(List zL)):=
 (if t3.1.length=a1.length then(some (t3.2,t3.1)) else none)
def Jo(kx4:(((List zL)×Int)→Option (Int×(List zL))))(kb7:(((List zL)×Int×Int)→Option (Int×(List zL))))(s6:((List zL)×Int×Int)):Option (Int×(List zL)):=
 (if s6.2.2 < ((s6.1.length:Nat):Int) then((idx s6.1 s6.2.2).bind fun v9=>((idx (s6.1.set (Int.toNat s6.2.2) (zL.mk s6.2.1 v9.Writes)) s6.2.2).bind fun v11=>((ZL v11.Writes (IntKind.wrap .i64 (s6.2.1+1))).bind fun v13=>(kb7 ((s6.1.set (Int.toNat s6.2.2) (zL.mk s6.2.1 v9.Writes)).set (Int.toNat s6.2.2) (zL.mk v11.Tx v13.2),v13.1,(IntKind.wrap .i64 (s6.2.2+1))))))) else(kx4 (s6.1,s6.2.1)))
def Zb(a1:(List zL))(a2:Int):Option (Int×(List zL)):=
 (iter (Jo (Je a1)) FU (a1,a2,0))
def YV(a1:(List Int))(t3:((List Int)×Int)):Option (Int×(List Int)):=
 (if t3.1.length=a1.length then(some (t3.2,t3.1)) else none)
def YG(kx4:(((List Int)×Int)→Option (Int×(List Int))))(kb7:(((List Int)×Int×Int)→Option (Int×(List Int))))(s6:((List Int)×Int×Int)):Option (Int×(List Int)):=
 (if s6.2.2 < ((s6.1.length:Nat):Int) then((idx s6.1 s6.2.2).bind fun v9=>(kb7 (s6.1.set (Int.toNat s6.2.2) s6.2.1,(IntKind.wrap .i64 (s6.2.1+1)),(IntKind.wrap .i64 (s6.2.2+1))))) else(kx4 (s6.1,s6.2.1)))
def yl(a1:(List Int))(a2:Int):Option (Int×(List Int)):=
 (iter (YG (YV a1)) FU (a1,a2,0))
def y9(a1:zn)(a2:Int):Option (Int×zn):=
 ((jR a1.Own a2).bind fun v3=>(if v3.2.length=a1.Own.length then((jR a1.Frozen v3.1).bind fun v6=>(if v6.2.length=a1.Frozen.length then((y6 a1.Cells v6.1).bind fun v9=>(if v9.2.length=a1.Cells.length then((Zk a1.Locks v9.1).bind fun v12=>(if v12.2.length=a1.Locks.length then((Zb a1.Helds v12.1).bind fun v15=>(if v15.2.length=a1.Helds.length then((yl a1.Wounded v15.1).bind fun v18=>(if v18.2.length=a1.Wounded.length then((yl a1.Ended v18.1).bind fun v21=>(if v21.2.length=a1.Ended.length then(if v3.2.length=a1.Own.length then(if v6.2.length=a1.Frozen.length then(if v9.2.length=a1.Cells.length then(if v12.2.length=a1.Locks.length then(if v15.2.length=a1.Helds.length then(if v18.2.length=a1.Wounded.length then(if v21.2.length=a1.Ended.length then(some (v21.1,(zn.mk a1.Me v3.2 v6.2 v9.2 v12.2 v15.2 v18.2 v21.2 a1.Rank))) else none) else none) else none) else none) else none) else none) else none) else none)) else none)) else none)) else none)) else none)) else none)) else none))
def QJ(t3:Int):Option Int:=
 (some t3)
def Qw(a1:(List ze))(kx4:(Int→Option Int))(kb6:((Int×Int)→Option Int))(s5:(Int×Int)):Option Int:=
 (if s5.2 < (a1.length:Int) then((idx a1 s5.2).bind fun v8=>(if ¬v8.Lo=s5.1 then(some (-1)) else((idx a1 s5.2).bind fun v11=>(if ¬v11.Hi=(IntKind.wrap .i64 (s5.1+1)) then(some (-1)) else(kb6 ((IntKind.wrap .i64 ((IntKind.wrap .i64 (s5.1+1))+1)),(IntKind.wrap .i64 (s5.2+1)))))))) else(kx4 s5.1))
def jQ(a1:(List ze))(a2:Int):Option Int:=
 (iter (Qw a1 QJ) FU (a2,0))
def Jj(t3:Int):Option Int:=
 (some t3)
def Jq(a1:(List zu))(kx4:(Int→Option Int))(kb6:((Int×Int)→Option Int))(s5:(Int×Int)):Option Int:=
 (if s5.2 < (a1.length:Int) then((idx a1 s5.2).bind fun v8=>(if ¬v8.Key=s5.1 then(some (-1)) else((idx a1 s5.2).bind fun v11=>(if ¬v11.Value=(IntKind.wrap .i64 (s5.1+1)) then(some (-1)) else(kb6 ((IntKind.wrap .i64 ((IntKind.wrap .i64 (s5.1+1))+1)),(IntKind.wrap .i64 (s5.2+1)))))))) else(kx4 s5.1))
def Zo(a1:(List zu))(a2:Int):Option Int:=
 (iter (Jq a1 Jj) FU (a2,0))
def Jn(t3:Int):Option Int:=
 (some t3)
def Jf(a1:(List zK))(kx4:(Int→Option Int))(kb6:((Int×Int)→Option Int))(s5:(Int×Int)):Option Int:=
 (if s5.2 < (a1.length:Int) then((idx a1 s5.2).bind fun v8=>(if ¬v8.Tx=s5.1 then(some (-1)) else((idx a1 s5.2).bind fun v11=>(if ¬v11.Lo=(IntKind.wrap .i64 (s5.1+1)) then(some (-1)) else((idx a1 s5.2).bind fun v14=>(if ¬v14.Hi=(IntKind.wrap .i64 ((IntKind.wrap .i64 (s5.1+1))+1)) then(some (-1)) else((idx a1 s5.2).bind fun v17=>(if ¬v17.Mode=(IntKind.wrap .i64 ((IntKind.wrap .i64 ((IntKind.wrap .i64 (s5.1+1))+1))+1)) then(some (-1)) else(kb6 ((IntKind.wrap .i64 ((IntKind.wrap .i64 ((IntKind.wrap .i64 ((IntKind.wrap .i64 (s5.1+1))+1))+1))+1)),(IntKind.wrap .i64 (s5.2+1)))))))))))) else(kx4 s5.1))
def Zc(a1:(List zK))(a2:Int):Option Int:=
 (iter (Jf a1 Jn) FU (a2,0))
def QN(t3:Int):Option Int:=
 (some t3)
def QC(a1:(List zu))(kx4:(Int→Option Int))(kb6:((Int×Int)→Option Int))(s5:(Int×Int)):Option Int:=
 (if s5.2 < (a1.length:Int) then((idx a1 s5.2).bind fun v8=>(if ¬v8.Key=s5.1 then(some (-1)) else((idx a1 s5.2).bind fun v11=>(if ¬v11.Value=(IntKind.wrap .i64 (s5.1+1)) then(some (-1)) else(kb6 ((IntKind.wrap .i64 ((IntKind.wrap .i64 (s5.1+1))+1)),(IntKind.wrap .i64 (s5.2+1)))))))) else(kx4 s5.1))
def ZK(a1:(List zu))(a2:Int):Option Int:=
 (iter (QC a1 QN) FU (a2,0))
def Jh(t3:Int):Option Int:=
 (some t3)
def Jr(a1:(List zL))(kx4:(Int→Option Int))(kb6:((Int×Int)→Option Int))(s5:(Int×Int)):Option Int:=
 (if s5.2 < (a1.length:Int) then((idx a1 s5.2).bind fun v8=>(if ¬v8.Tx=s5.1 then(some (-1)) else((idx a1 s5.2).bind fun v11=>((ZK v11.Writes (IntKind.wrap .i64 (s5.1+1))).bind fun v13=>(if v13 < 0 then(some (-1)) else(kb6 (v13,(IntKind.wrap .i64 (s5.2+1))))))))) else(kx4 s5.1))
def y8(a1:(List zL))(a2:Int):Option Int:=
 (iter (Jr a1 Jh) FU (a2,0))
def Yq(t3:Int):Option Int:=
 (some t3)
def Yv(a1:(List Int))(kx4:(Int→Option Int))(kb6:((Int×Int)→Option Int))(s5:(Int×Int)):Option Int:=
 (if s5.2 < (a1.length:Int) then((idx a1 s5.2).bind fun v8=>(if ¬v8=s5.1 then(some (-1)) else(kb6 ((IntKind.wrap .i64 (s5.1+1)),(IntKind.wrap .i64 (s5.2+1)))))) else(kx4 s5.1))
def yi(a1:(List Int))(a2:Int):Option Int:=
 (iter (Yv a1 Yq) FU (a2,0))
def Zg(a1:zn)(a2:Int):Option Int:=
 ((jQ a1.Own a2).bind fun v3=>(if v3 < 0 then(some (-1)) else((jQ a1.Frozen v3).bind fun v6=>(if v6 < 0 then(some (-1)) else((Zo a1.Cells v6).bind fun v9=>(if v9 < 0 then(some (-1)) else((Zc a1.Locks v9).bind fun v12=>(if v12 < 0 then(some (-1)) else((y8 a1.Helds v12).bind fun v15=>(if v15 < 0 then(some (-1)) else((yi a1.Wounded v15).bind fun v18=>(if v18 < 0 then(some (-1)) else((yi a1.Ended v18).bind fun v21=>(if v21 < 0 then(some (-1)) else(some v21)))))))))))))))
def jI(v17:(zn×Int))(v39:(Int×zn))(t58:Bool):Option Bool:=
 (if t58=true then(some false) else((Zg (zn.mk v17.1.Me v39.2.Own v39.2.Frozen v39.2.Cells v39.2.Locks v39.2.Helds v39.2.Wounded v39.2.Ended v17.1.Rank) 1).bind fun v61=>(if v61 < 0 then(some false) else(if ¬v61=v39.1 then(some false) else(some true)))))
def jj(v17:(zn×Int))(a1:zn)(a3:ze)(a2:Int)(v11:(zn×Int))(t36:Bool):Option Bool:=
 (if t36=true then(some false) else((y9 v17.1 1).bind fun v39=>(if v39.2.Own.length=v17.1.Own.length then(if v39.2.Frozen.length=v17.1.Frozen.length then(if v39.2.Cells.length=v17.1.Cells.length then(if v39.2.Locks.length=v17.1.Locks.length then(if v39.2.Helds.length=v17.1.Helds.length then(if v39.2.Wounded.length=v17.1.Wounded.length then(if v39.2.Ended.length=v17.1.Ended.length then((Zg (zn.mk v17.1.Me v39.2.Own v39.2.Frozen v39.2.Cells v39.2.Locks v39.2.Helds v39.2.Wounded v39.2.Ended v17.1.Rank) 1).bind fun v48=>(if v48 < 0 then(some false) else(if ¬v48=v39.1 then(some false) else((yB a1).bind fun v52=>((yC a3).bind fun v54=>((Ze v52 a2 v54).bind fun v56=>((yD v56.1 v11.1).bind fun v65=>(if v65=true then((jI v17 v39) (decide (¬v56.2=v11.2))) else((jI v17 v39) true))))))))) else none) else none) else none) else none) else none) else none) else none)))
def jJ(a1:zn)(v13:zn)(v17:(zn×Int))(a3:ze)(a2:Int)(v11:(zn×Int))(t19:Bool):Option Bool:=
 (if t19=true then(some false) else((yB a1).bind fun v22=>((yD v13 v22).bind fun v24=>(if v24=true then((y9 v13 1).bind fun v27=>(if v27.2.Own.length=v13.Own.length then(if v27.2.Frozen.length=v13.Frozen.length then(if v27.2.Cells.length=v13.Cells.length then(if v27.2.Locks.length=v13.Locks.length then(if v27.2.Helds.length=v13.Helds.length then(if v27.2.Wounded.length=v13.Wounded.length then(if v27.2.Ended.length=v13.Ended.length then(if v27.1 < 0 then((jj v17 a1 a3 a2 v11) true) else((yD v17.1 v11.1).bind fun v69=>(if v69=true then((jj v17 a1 a3 a2 v11) (decide (¬v17.2=v11.2))) else((jj v17 a1 a3 a2 v11) true)))) else none) else none) else none) else none) else none) else none) else none)) else(some false)))))
def yJ(a1:zn)(a2:Int)(a3:ze):Option Bool:=
 ((JJ a1 1048576).bind fun v4=>(if v4 < 0 then(some true) else((yB a1).bind fun v7=>((yC a3).bind fun v9=>((Qb v7 a2 v9).bind fun v11=>((yB a1).bind fun v13=>((yC a3).bind fun v15=>((Ze v13 a2 v15).bind fun v17=>((yD v17.1 v11.1).bind fun v72=>(if v72=true then((jJ a1 v13 v17 a3 a2 v11) (decide (¬v17.2=v11.2))) else((jJ a1 v13 v17 a3 a2 v11) true)))))))))))
abbrev qp(x:zK):List C:=[(dI x.Tx),(dI x.Lo),(dI x.Hi),(dI x.Mode)]
abbrev jG(x:zL):List C:=[(dI x.Tx),(.d (.sl 2 (List.map zj x.Writes)))]
abbrev zE(x:zn):List C:=[(dI x.Me),(.d (.sl 2 (List.map zd x.Own))),(.d (.sl 2 (List.map zd x.Frozen))),(.d (.sl 2 (List.map zj x.Cells))),(.d (.sl 4 (List.map zp x.Locks))),(.d (.sl 2 (List.map zA x.Helds))),(.d (.sl 1 (List.map zt x.Wounded))),(.d (.sl 1 (List.map zt x.Ended))),(dI x.Rank)]
end Go.AW
