/- Plain functions that say what functions of the program compute. Conditions: none. -/
import Derived.Test.YtlcjjljmjdmobaaYi
set_option linter.unusedVariables false
set_option linter.unusedSimpArgs false
set_option maxRecDepth 100000
namespace Go.AW
structure zC where
 Lo:Int
 Hi:Int
deriving DecidableEq
def YR(x:zC):Prop:=inK .i64 x.Lo∧inK .i64 x.Hi
structure zO where
 Key:Int
 Value:Int
deriving DecidableEq
def xU(x:zO):Prop:=inK .i64 x.Key∧inK .i64 x.Value
structure zb where
 Group:Int
 Reads:(List zC)
 Writes:(List zO)
 Vote:Int
deriving DecidableEq
def QV(x:zb):Prop:=inK .i64 x.Group∧okS YR x.Reads∧okS xU x.Writes∧inK .i64 x.Vote
structure zp where
 Tx:Int
 Client:Int
 Req:Int
 State:Int
 Shares:(List zb)
deriving DecidableEq
def Yv(x:zp):Prop:=inK .i64 x.Tx∧inK .i64 x.Client∧inK .i64 x.Req∧inK .i64 x.State∧okS QV x.Shares
structure zw where
 Recs:(List zp)
 Order:(List Int)
deriving DecidableEq
def YL(x:zw):Prop:=okS Yv x.Recs∧okS (inK .i64) x.Order
abbrev zx(x:zC):List D:=[(.int .i64 x.Lo),(.int .i64 x.Hi)]
abbrev zG(x:zO):List D:=[(.int .i64 x.Key),(.int .i64 x.Value)]
abbrev zd(x:zb):List D:=[(.int .i64 x.Group),(.sl 2 (List.map zx x.Reads)),(.sl 2 (List.map zG x.Writes)),(.int .i64 x.Vote)]
abbrev zl(x:zp):List D:=[(.int .i64 x.Tx),(.int .i64 x.Client),(.int .i64 x.Req),(.int .i64 x.State),(.sl 4 (List.map zd x.Shares))]
abbrev zA(x:Int):List D:=[(.int .i64 x)]
abbrev qL(x:zw):List D:=[(.sl 5 (List.map zl x.Recs)),(.sl 1 (List.map zA x.Order))]
abbrev zeO(x:(List Int)):List D:=[(.sl 1 (List.map zA x))]
abbrev zci(x:(List zO)):List D:=[(.sl 2 (List.map zG x))]
abbrev zaS(x:(List zC)):List D:=[(.sl 2 (List.map zx x))]
abbrev za2(x:(List zb)):List D:=[(.sl 4 (List.map zd x))]
abbrev zdC(x:(List zp)):List D:=[(.sl 5 (List.map zl x))]
abbrev zkp(x:Bool):List D:=[(.bool x)]
def y7(a1:(List zC))(a2:Int):Option Int:=
 (if (IntKind.wrap .i64 (a2 - (a1.length:Int))) < 0 then(some (-1)) else(some (IntKind.wrap .i64 (a2 - (a1.length:Int)))))
def y5(a1:(List zO))(a2:Int):Option Int:=
 (if (IntKind.wrap .i64 (a2 - (a1.length:Int))) < 0 then(some (-1)) else(some (IntKind.wrap .i64 (a2 - (a1.length:Int)))))
def ZD(a1:zb)(a2:Int):Option Int:=
 ((y7 a1.Reads a2).bind fun v3=>(if v3 < 0 then(some (-1)) else((y5 a1.Writes v3).bind fun v6=>(if v6 < 0 then(some (-1)) else(some v6)))))
def Qe(t4:Int):Option Int:=
 (some t4)
def ZS(a1:(List zb))(kx5:(Int→Option Int))(kb7:((Int×Int)→Option Int))(s6:(Int×Int)):Option Int:=
 (if s6.2 < (a1.length:Int) then((idx a1 s6.2).bind fun v9=>((ZD v9 s6.1).bind fun v11=>(if v11 < 0 then(some (-1)) else(kb7 (v11,(IntKind.wrap .i64 (s6.2+1))))))) else(kx5 s6.1))
def Zd(a1:(List zb))(a2:Int):Option Int:=
 (if (IntKind.wrap .i64 (a2 - (a1.length:Int))) < 0 then(some (-1)) else(iter (ZS a1 Qe) FU ((IntKind.wrap .i64 (a2 - (a1.length:Int))),0)))
def Ja(a1:zp)(a2:Int):Option Int:=
 ((Zd a1.Shares a2).bind fun v3=>(if v3 < 0 then(some (-1)) else(some v3)))
def QY(t4:Int):Option Int:=
 (some t4)
def Q3(a1:(List zp))(kx5:(Int→Option Int))(kb7:((Int×Int)→Option Int))(s6:(Int×Int)):Option Int:=
 (if s6.2 < (a1.length:Int) then((idx a1 s6.2).bind fun v9=>((Ja v9 s6.1).bind fun v11=>(if v11 < 0 then(some (-1)) else(kb7 (v11,(IntKind.wrap .i64 (s6.2+1))))))) else(kx5 s6.1))
def Qq(a1:(List zp))(a2:Int):Option Int:=
 (if (IntKind.wrap .i64 (a2 - (a1.length:Int))) < 0 then(some (-1)) else(iter (Q3 a1 QY) FU ((IntKind.wrap .i64 (a2 - (a1.length:Int))),0)))
def QB(a1:(List Int))(a2:Int):Option Int:=
 (if (IntKind.wrap .i64 (a2 - (a1.length:Int))) < 0 then(some (-1)) else(some (IntKind.wrap .i64 (a2 - (a1.length:Int)))))
def ZB(a1:zw)(a2:Int):Option Int:=
 ((Qq a1.Recs a2).bind fun v3=>(if v3 < 0 then(some (-1)) else((QB a1.Order v3).bind fun v6=>(if v6 < 0 then(some (-1)) else(some v6)))))
def Js(a1:zC):Option zC:=
 (some a1)
def ZX(t3:(List zC)):Option (List zC):=
 (some t3)
def ZM(a1:(List zC))(kx4:((List zC)→Option (List zC)))(kb6:(((List zC)×Int)→Option (List zC)))(s5:((List zC)×Int)):Option (List zC):=
 (if s5.2 < (a1.length:Int) then((idx a1 s5.2).bind fun v8=>((Js v8).bind fun v10=>((idx s5.1 s5.2).bind fun v12=>(kb6 (s5.1.set (Int.toNat s5.2) v10,(IntKind.wrap .i64 (s5.2+1))))))) else(kx4 s5.1))
def Zf(a1:(List zC)):Option (List zC):=
 (if 0≤(a1.length:Int)∧(a1.length:Int)≤2147483648 then(iter (ZM a1 ZX) FU ((List.replicate (Int.toNat (a1.length:Int)) (zC.mk 0 0)),0)) else none)
def Q5(a1:zO):Option zO:=
 (some a1)
def Z0(t3:(List zO)):Option (List zO):=
 (some t3)
def Z2(a1:(List zO))(kx4:((List zO)→Option (List zO)))(kb6:(((List zO)×Int)→Option (List zO)))(s5:((List zO)×Int)):Option (List zO):=
 (if s5.2 < (a1.length:Int) then((idx a1 s5.2).bind fun v8=>((Q5 v8).bind fun v10=>((idx s5.1 s5.2).bind fun v12=>(kb6 (s5.1.set (Int.toNat s5.2) v10,(IntKind.wrap .i64 (s5.2+1))))))) else(kx4 s5.1))
def y9(a1:(List zO)):Option (List zO):=
 (if 0≤(a1.length:Int)∧(a1.length:Int)≤2147483648 then(iter (Z2 a1 Z0) FU ((List.replicate (Int.toNat (a1.length:Int)) (zO.mk 0 0)),0)) else none)
def Zy(a1:zb):Option zb:=
 ((Zf a1.Reads).bind fun v2=>((y9 a1.Writes).bind fun v4=>(some (zb.mk a1.Group v2 v4 a1.Vote))))
def Qb(t3:(List zb)):Option (List zb):=
 (some t3)
def Z5(a1:(List zb))(kx4:((List zb)→Option (List zb)))(kb6:(((List zb)×Int)→Option (List zb)))(s5:((List zb)×Int)):Option (List zb):=
 (if s5.2 < (a1.length:Int) then((idx a1 s5.2).bind fun v8=>((Zy v8).bind fun v10=>((idx s5.1 s5.2).bind fun v12=>(kb6 (s5.1.set (Int.toNat s5.2) v10,(IntKind.wrap .i64 (s5.2+1))))))) else(kx4 s5.1))
def yS(a1:(List zb)):Option (List zb):=
 (if 0≤(a1.length:Int)∧(a1.length:Int)≤2147483648 then(iter (Z5 a1 Qb) FU ((List.replicate (Int.toNat (a1.length:Int)) (zb.mk 0 ([]:(List zC)) ([]:(List zO)) 0)),0)) else none)
def Jj(a1:zp):Option zp:=
 ((yS a1.Shares).bind fun v2=>(some (zp.mk a1.Tx a1.Client a1.Req a1.State v2)))
def Q1(t3:(List zp)):Option (List zp):=
 (some t3)
def Q9(a1:(List zp))(kx4:((List zp)→Option (List zp)))(kb6:(((List zp)×Int)→Option (List zp)))(s5:((List zp)×Int)):Option (List zp):=
 (if s5.2 < (a1.length:Int) then((idx a1 s5.2).bind fun v8=>((Jj v8).bind fun v10=>((idx s5.1 s5.2).bind fun v12=>(kb6 (s5.1.set (Int.toNat s5.2) v10,(IntKind.wrap .i64 (s5.2+1))))))) else(kx4 s5.1))
def Qr(a1:(List zp)):Option (List zp):=
 (if 0≤(a1.length:Int)∧(a1.length:Int)≤2147483648 then(iter (Q9 a1 Q1) FU ((List.replicate (Int.toNat (a1.length:Int)) (zp.mk 0 0 0 0 ([]:(List zb)))),0)) else none)
def Jc(t3:(List Int)):Option (List Int):=
 (some t3)
def Jm(a1:(List Int))(kx4:((List Int)→Option (List Int)))(kb6:(((List Int)×Int)→Option (List Int)))(s5:((List Int)×Int)):Option (List Int):=
 (if s5.2 < (a1.length:Int) then((idx a1 s5.2).bind fun v8=>((idx s5.1 s5.2).bind fun v10=>(kb6 (s5.1.set (Int.toNat s5.2) v8,(IntKind.wrap .i64 (s5.2+1)))))) else(kx4 s5.1))
def QA(a1:(List Int)):Option (List Int):=
 (if 0≤(a1.length:Int)∧(a1.length:Int)≤2147483648 then(iter (Jm a1 Jc) FU ((List.replicate (Int.toNat (a1.length:Int)) 0),0)) else none)
def jy(a1:zw):Option zw:=
 ((Qr a1.Recs).bind fun v2=>((QA a1.Order).bind fun v4=>(some (zw.mk v2 v4))))
def jb(a1:Int)(a2:Int)(a3:Int):Option Bool:=
 (if a2≤a1 then(some (decide (a1≤a3))) else(some false))
def ZF(a1:Int):Option Bool:=
 ((jb a1 0 1000000000).bind fun v2=>(some v2))
def Qt(a1:Int):Option Bool:=
 ((jb a1 0 999).bind fun v2=>(some v2))
def JJ(t3:Unit):Option Bool:=
 (some true)
def jt(kb6:(Int→Option Bool))(s5:Int)(t8:Bool):Option Bool:=
 (if t8=true then(some false) else(kb6 (IntKind.wrap .i64 (s5+1))))
def ZL(a1:(List zO))(kx4:(Unit→Option Bool))(kb6:(Int→Option Bool))(s5:Int):Option Bool:=
 (if s5 < (a1.length:Int) then((idx a1 s5).bind fun v11=>((Qt v11.Key).bind fun v13=>(if v13=true then((idx a1 s5).bind fun v16=>((jb v16.Value (-1) 1000000000).bind fun v18=>(if v18=true then(if 0 < s5 then((idx a1 (IntKind.wrap .i64 (s5 - 1))).bind fun v22=>((idx a1 s5).bind fun v24=>((jt kb6 s5) (decide (v24.Key≤v22.Key))))) else((jt kb6 s5) false)) else((jt kb6 s5) true)))) else((jt kb6 s5) true)))) else(kx4 ()))
def j3(a1:(List zO)):Option Bool:=
 (if 60 < (a1.length:Int) then(some false) else(iter (ZL a1 JJ) FU 0))
def Zx(a1:zC):Option Bool:=
 (if 0≤a1.Lo then(if a1.Lo < a1.Hi then(some (decide (a1.Hi≤1000))) else(some false)) else(some false))
def Jx(t3:Unit):Option Bool:=
 (some true)
def qc(kb6:(Int→Option Bool))(s5:Int)(t8:Unit):Option Bool:=
 (kb6 (IntKind.wrap .i64 (s5+1)))
def j5(v10:zb)(kx9:(Unit→Option Bool))(kb16:(Int→Option Bool))(s15:Int):Option Bool:=
 (if s15 < (v10.Reads.length:Int) then((idx v10.Reads s15).bind fun v18=>((Zx v18).bind fun v20=>(if v20=true then(kb16 (IntKind.wrap .i64 (s15+1))) else(some false)))) else(kx9 ()))
def qg(v10:zb)(kx9:(Unit→Option Bool))(t12:Bool):Option Bool:=
 (if t12=true then(some false) else(iter (j5 v10 kx9) FU 0))
def ZW(a1:(List zb))(kx4:(Unit→Option Bool))(kb6:(Int→Option Bool))(s5:Int):Option Bool:=
 (if s5 < (a1.length:Int) then((idx a1 s5).bind fun v10=>((jb v10.Group 0 3).bind fun v23=>(if v23=true then(if 0 < s5 then((idx a1 (IntKind.wrap .i64 (s5 - 1))).bind fun v27=>(if v10.Group≤v27.Group then((qg v10 (qc kb6 s5)) true) else(if 16 < (v10.Reads.length:Int) then((qg v10 (qc kb6 s5)) true) else((j3 v10.Writes).bind fun v31=>(if v31=true then((jb v10.Vote 0 2).bind fun v34=>((qg v10 (qc kb6 s5)) (!v34))) else((qg v10 (qc kb6 s5)) true)))))) else(if 16 < (v10.Reads.length:Int) then((qg v10 (qc kb6 s5)) true) else((j3 v10.Writes).bind fun v37=>(if v37=true then((jb v10.Vote 0 2).bind fun v40=>((qg v10 (qc kb6 s5)) (!v40))) else((qg v10 (qc kb6 s5)) true))))) else((qg v10 (qc kb6 s5)) true)))) else(kx4 ()))
def yU(a1:(List zb)):Option Bool:=
 (if 4 < (a1.length:Int) then(some false) else(iter (ZW a1 Jx) FU 0))
def Z6(t3:Int):Option Int:=
 (some t3)
def ZR(a1:(List zb))(a2:Int)(kx4:(Int→Option Int))(kb6:((Int×Int)→Option Int))(s5:(Int×Int)):Option Int:=
 (if s5.2 < (a1.length:Int) then((idx a1 s5.2).bind fun v8=>(if v8.Vote=a2 then(kb6 ((IntKind.wrap .i64 (s5.1+1)),(IntKind.wrap .i64 (s5.2+1)))) else(kb6 (s5.1,(IntKind.wrap .i64 (s5.2+1)))))) else(kx4 s5.1))
def jj(a1:(List zb))(a2:Int):Option Int:=
 (iter (ZR a1 a2 Z6) FU (0,0))
def jP(a1:zp)(t2:Bool):Option Bool:=
 (if t2=true then(some false) else(if a1.State=1 then(some (decide ((a1.Shares.length:Int)=0))) else(if a1.State=2 then((jj a1.Shares 0).bind fun v7=>(if 0 < v7 then((jj a1.Shares 2).bind fun v10=>(some (decide (v10=0)))) else(some false))) else(if a1.State=3 then((jj a1.Shares 1).bind fun v13=>(some (decide (v13=(a1.Shares.length:Int))))) else(some (decide (a1.State=4)))))))
def yY(a1:zp):Option Bool:=
 ((ZF a1.Client).bind fun v15=>(if v15=true then((jb a1.Req 1 1000000000).bind fun v18=>(if v18=true then((yU a1.Shares).bind fun v21=>((jP a1) (!v21))) else((jP a1) true))) else((jP a1) true)))
def Yj(t3:Unit):Option Bool:=
 (some false)
def Ji(a1:(List Int))(a2:Int)(kx4:(Unit→Option Bool))(kb6:(Int→Option Bool))(s5:Int):Option Bool:=
 (if s5 < (a1.length:Int) then((idx a1 s5).bind fun v8=>(if v8=a2 then(some true) else(kb6 (IntKind.wrap .i64 (s5+1))))) else(kx4 ()))
def Qy(a1:(List Int))(a2:Int):Option Bool:=
 (iter (Ji a1 a2 Yj) FU 0)
def QH(t5:Int)(a1:zw)(t7:Unit):Option Bool:=
 (some (decide (t5=(a1.Order.length:Int))))
def jK(kb10:(Int→Option Bool))(s9:Int)(t14:Bool):Option Bool:=
 (if t14=true then(some false) else(kb10 (IntKind.wrap .i64 (s9+1))))
def QI(a1:zw)(kx8:(Unit→Option Bool))(kb10:(Int→Option Bool))(s9:Int):Option Bool:=
 (if s9 < (a1.Order.length:Int) then((idx a1.Order s9).bind fun v12=>((jb v12 1 (a1.Recs.length:Int)).bind fun v17=>(if v17=true then((idx a1.Recs (IntKind.wrap .i64 (v12 - 1))).bind fun v20=>(if ¬v20.State=3 then((jK kb10 s9) true) else((cut a1.Order 0 s9).bind fun v23=>((Qy v23 v12).bind fun v25=>((jK kb10 s9) v25))))) else((jK kb10 s9) true)))) else(kx8 ()))
def QL(a1:zw)(t5:Int):Option Bool:=
 (iter (QI a1 (QH t5 a1)) FU 0)
def jr(kb28:((Int×Int)→Option Bool))(s27:(Int×Int))(t30:Int):Option Bool:=
 (kb28 (t30,(IntKind.wrap .i64 (s27.2+1))))
def Z8(v32:zp)(kx31:(Int→Option Bool))(s27:(Int×Int))(t37:Unit):Option Bool:=
 (if v32.State=3 then(kx31 (IntKind.wrap .i64 (s27.1+1))) else(kx31 s27.1))
def ym(kb41:(Int→Option Bool))(s40:Int)(t43:Bool):Option Bool:=
 (if t43=true then(some false) else(kb41 (IntKind.wrap .i64 (s40+1))))
def yk(s27:(Int×Int))(a1:zw)(v32:zp)(kx38:(Unit→Option Bool))(kb41:(Int→Option Bool))(s40:Int):Option Bool:=
 (if s40 < s27.2 then((idx a1.Recs s40).bind fun v46=>(if v46.Client=v32.Client then((idx a1.Recs s40).bind fun v49=>((ym kb41 s40) (decide (v49.Req=v32.Req)))) else((ym kb41 s40) false))) else(kx38 ()))
def yu(s27:(Int×Int))(a1:zw)(v32:zp)(kx31:(Int→Option Bool))(t34:Bool):Option Bool:=
 (if t34=true then(some false) else(iter (yk s27 a1 v32 (Z8 v32 kx31 s27)) FU 0))
def ZU(a1:zw)(kx6:(Int→Option Bool))(kb28:((Int×Int)→Option Bool))(s27:(Int×Int)):Option Bool:=
 (if s27.2 < (a1.Recs.length:Int) then((idx a1.Recs s27.2).bind fun v32=>(if ¬v32.Tx=(IntKind.wrap .i64 (s27.2+1)) then((yu s27 a1 v32 (jr kb28 s27)) true) else((yY v32).bind fun v52=>((yu s27 a1 v32 (jr kb28 s27)) (!v52))))) else(kx6 s27.1))
def Zb(a1:zw)(t2:Bool):Option Bool:=
 (if t2=true then(some false) else(iter (ZU a1 (QL a1)) FU (0,0)))
def Zs(a1:zw):Option Bool:=
 (if 60 < (a1.Recs.length:Int) then((Zb a1) true) else((Zb a1) (decide (60 < (a1.Order.length:Int)))))
def Zi(t2:(List zb)):Option (List zb):=
 (some t2)
def Zl(a1:(List zb))(kx3:((List zb)→Option (List zb)))(kb5:(((List zb)×Int)→Option (List zb)))(s4:((List zb)×Int)):Option (List zb):=
 (if s4.2 < (a1.length:Int) then((idx a1 s4.2).bind fun v7=>(if v7.Reads.length≤2147483648 then(if v7.Writes.length≤2147483648 then(if (s4.1++[v7]).length≤2147483648 then(kb5 ((s4.1++[v7]),(IntKind.wrap .i64 (s4.2+1)))) else none) else none) else none)) else(kx3 s4.1))
def yq(a1:(List zb)):Option (List zb):=
 (iter (Zl a1 Zi) FU (([]:List zb),0))
def QJ(a1:zw)(t3:(List zp)):Option zw:=
 (some (zw.mk t3 a1.Order))
def QD(a1:zw)(kx4:((List zp)→Option zw))(kb6:((Int×(List zp))→Option zw))(s5:(Int×(List zp))):Option zw:=
 (if s5.1 < (a1.Recs.length:Int) then((idx a1.Recs s5.1).bind fun v8=>((yq v8.Shares).bind fun v10=>(if (s5.2++[(zp.mk v8.Tx v8.Client v8.Req v8.State v10)]).length≤2147483648 then(kb6 ((IntKind.wrap .i64 (s5.1+1)),(s5.2++[(zp.mk v8.Tx v8.Client v8.Req v8.State v10)]))) else none))) else(kx4 s5.2))
def ZE(a1:zw):Option zw:=
 (if a1.Order.length≤2147483648 then(iter (QD a1 (QJ a1)) FU (0,([]:List zp))) else none)
def jQ(t24:((List zp)×(List Int))):Option (zw×Int):=
 (some ((zw.mk t24.1 t24.2),0))
def jq(v8:zw)(a4:Bool)(v13:zp)(t16:Int)(a2:Int)(t18:Bool):Option (zw×Int):=
 (if t18=true then(some (v8,3)) else(if a4=true then((idx v13.Shares t16).bind fun v22=>((jj (v13.Shares.set (Int.toNat t16) (zb.mk v22.Group v22.Reads v22.Writes 1)) 0).bind fun v26=>(if v26=0 then((idx (v8.Recs.set (Int.toNat (IntKind.wrap .i64 (a2 - 1))) (zp.mk v13.Tx v13.Client v13.Req v13.State (v13.Shares.set (Int.toNat t16) (zb.mk v22.Group v22.Reads v22.Writes 1)))) (IntKind.wrap .i64 (a2 - 1))).bind fun v29=>(if (v8.Order++([a2])).length≤2147483648 then(jQ ((v8.Recs.set (Int.toNat (IntKind.wrap .i64 (a2 - 1))) (zp.mk v13.Tx v13.Client v13.Req v13.State (v13.Shares.set (Int.toNat t16) (zb.mk v22.Group v22.Reads v22.Writes 1)))).set (Int.toNat (IntKind.wrap .i64 (a2 - 1))) (zp.mk v29.Tx v29.Client v29.Req 3 v29.Shares),(v8.Order++([a2])))) else none)) else(jQ (v8.Recs.set (Int.toNat (IntKind.wrap .i64 (a2 - 1))) (zp.mk v13.Tx v13.Client v13.Req v13.State (v13.Shares.set (Int.toNat t16) (zb.mk v22.Group v22.Reads v22.Writes 1))),v8.Order))))) else((idx v13.Shares t16).bind fun v32=>((idx (v8.Recs.set (Int.toNat (IntKind.wrap .i64 (a2 - 1))) (zp.mk v13.Tx v13.Client v13.Req v13.State (v13.Shares.set (Int.toNat t16) (zb.mk v32.Group v32.Reads v32.Writes 2)))) (IntKind.wrap .i64 (a2 - 1))).bind fun v34=>(some ((zw.mk ((v8.Recs.set (Int.toNat (IntKind.wrap .i64 (a2 - 1))) (zp.mk v13.Tx v13.Client v13.Req v13.State (v13.Shares.set (Int.toNat t16) (zb.mk v32.Group v32.Reads v32.Writes 2)))).set (Int.toNat (IntKind.wrap .i64 (a2 - 1))) (zp.mk v34.Tx v34.Client v34.Req 4 v34.Shares)) v8.Order),0))))))
def yO(v13:zp)(v8:zw)(a4:Bool)(a2:Int)(t16:Int):Option (zw×Int):=
 (if ¬v13.State=2 then((jq v8 a4 v13 t16 a2) true) else((jq v8 a4 v13 t16 a2) (decide (t16 < 0))))
def jS(kb38:((Int×Int)→Option (zw×Int)))(s37:(Int×Int))(t40:Bool):Option (zw×Int):=
 (if t40=true then(kb38 (s37.2,(IntKind.wrap .i64 (s37.2+1)))) else(kb38 (s37.1,(IntKind.wrap .i64 (s37.2+1)))))
def jT(v13:zp)(a3:Int)(kx17:(Int→Option (zw×Int)))(kb38:((Int×Int)→Option (zw×Int)))(s37:(Int×Int)):Option (zw×Int):=
 (if s37.2 < (v13.Shares.length:Int) then((idx v13.Shares s37.2).bind fun v43=>(if v43.Group=a3 then((idx v13.Shares s37.2).bind fun v46=>((jS kb38 s37) (decide (v46.Vote=0)))) else((jS kb38 s37) false))) else(kx17 s37.1))
def yj(a1:zw)(a2:Int)(a3:Int)(a4:Bool):Option (zw×Int):=
 ((Zs a1).bind fun v5=>(if v5=true then((ZE a1).bind fun v8=>((jb a2 1 (a1.Recs.length:Int)).bind fun v10=>(if v10=true then((idx v8.Recs (IntKind.wrap .i64 (a2 - 1))).bind fun v13=>(iter (jT v13 a3 (yO v13 v8 a4 a2)) FU ((-1),0))) else(some (v8,2))))) else(some ((zw.mk ([]:(List zp)) ([]:(List Int))),1))))
def qY(a1:Int)(a2:Int)(a3:Int):Option Bool:=
 (if a2≤a1 then(some (decide (a1≤a3))) else(some false))
def Zn(a1:Int):Option Bool:=
 ((qY a1 0 1000000000).bind fun v2=>(some v2))
def Jr(a1:Int):Option Bool:=
 ((qY a1 1 1000000000).bind fun v2=>(some v2))
def Zo(a1:Int):Option Bool:=
 ((qY a1 0 3).bind fun v2=>(some v2))
def Zr(a1:zC):Option Bool:=
 (if 0≤a1.Lo then(if a1.Lo < a1.Hi then(some (decide (a1.Hi≤1000))) else(some false)) else(some false))
def yl(a1:zC):Option Bool:=
 ((Zr a1).bind fun v2=>(some (!v2)))
def qQ(t2:Unit):Option Int:=
 (some (-1))
def qm(a1:(List zC))(kx3:(Unit→Option Int))(kb5:(Int→Option Int))(s4:Int):Option Int:=
 (if s4 < (a1.length:Int) then((idx a1 s4).bind fun v7=>((yl v7).bind fun v9=>(if v9=true then(some s4) else(kb5 (IntKind.wrap .i64 (s4+1)))))) else(kx3 ()))
def qt(a1:(List zC)):Option Int:=
 (iter (qm a1 qQ) FU 0)
def z3(a1:(List zC)):Option Bool:=
 ((qt a1).bind fun v2=>(some (decide (0≤v2))))
def yr(a1:(List zC)):Option Bool:=
 (if (a1.length:Int)≤16 then((z3 a1).bind fun v3=>(some (!v3))) else(some false))
def Q6(a1:Int):Option Bool:=
 ((qY a1 0 999).bind fun v2=>(some v2))
def yW(a1:Int):Option Bool:=
 ((qY a1 (-1) 1000000000).bind fun v2=>(some v2))
def Qf(a1:(List zO))(t2:Unit):Option Bool:=
 (some (decide ((a1.length:Int)≤60)))
def js(kb5:(Int→Option Bool))(s4:Int)(t9:Bool):Option Bool:=
 (if t9=true then(some false) else(kb5 (IntKind.wrap .i64 (s4+1))))
def ZY(a1:(List zO))(kx3:(Unit→Option Bool))(kb5:(Int→Option Bool))(s4:Int):Option Bool:=
 (if s4 < (a1.length:Int) then((idx a1 s4).bind fun v7=>((Q6 v7.Key).bind fun v12=>(if v12=true then((yW v7.Value).bind fun v15=>(if v15=true then(if 0 < s4 then((idx a1 (IntKind.wrap .i64 (s4 - 1))).bind fun v19=>((js kb5 s4) (decide (v7.Key≤v19.Key)))) else((js kb5 s4) false)) else((js kb5 s4) true))) else((js kb5 s4) true)))) else(kx3 ()))
def j4(a1:(List zO)):Option Bool:=
 (iter (ZY a1 (Qf a1)) FU 0)
def ZZ(a1:(List zb))(t2:Unit):Option Bool:=
 (some (decide ((a1.length:Int)≤4)))
def qp(kb5:(Int→Option Bool))(s4:Int)(t9:Bool):Option Bool:=
 (if t9=true then(some false) else(kb5 (IntKind.wrap .i64 (s4+1))))
def Z3(a1:(List zb))(kx3:(Unit→Option Bool))(kb5:(Int→Option Bool))(s4:Int):Option Bool:=
 (if s4 < (a1.length:Int) then((idx a1 s4).bind fun v7=>((Zo v7.Group).bind fun v12=>(if v12=true then(if 0 < s4 then((idx a1 (IntKind.wrap .i64 (s4 - 1))).bind fun v16=>(if v7.Group≤v16.Group then((qp kb5 s4) true) else((yr v7.Reads).bind fun v19=>(if v19=true then((j4 v7.Writes).bind fun v22=>(if v22=true then((qY v7.Vote 0 2).bind fun v25=>((qp kb5 s4) (!v25))) else((qp kb5 s4) true))) else((qp kb5 s4) true))))) else((yr v7.Reads).bind fun v27=>(if v27=true then((j4 v7.Writes).bind fun v30=>(if v30=true then((qY v7.Vote 0 2).bind fun v33=>((qp kb5 s4) (!v33))) else((qp kb5 s4) true))) else((qp kb5 s4) true)))) else((qp kb5 s4) true)))) else(kx3 ()))
def yT(a1:(List zb)):Option Bool:=
 (iter (Z3 a1 (ZZ a1)) FU 0)
def Q4(a1:zb)(a2:Int):Option Bool:=
 (some (decide (a1.Vote=a2)))
def qW(t3:Unit):Option Int:=
 (some (-1))
def qw(a1:(List zb))(a2:Int)(kx4:(Unit→Option Int))(kb6:(Int→Option Int))(s5:Int):Option Int:=
 (if s5 < (a1.length:Int) then((idx a1 s5).bind fun v8=>((Q4 v8 a2).bind fun v10=>(if v10=true then(some s5) else(kb6 (IntKind.wrap .i64 (s5+1)))))) else(kx4 ()))
def qA(a1:(List zb))(a2:Int):Option Int:=
 (iter (qw a1 a2 qW) FU 0)
def qo(a1:(List zb))(a2:Int):Option Bool:=
 ((qA a1 a2).bind fun v3=>(some (decide (0≤v3))))
def jI(a1:(List zb))(a2:Int):Option Bool:=
 ((qo a1 a2).bind fun v3=>(some v3))
def Zg(a1:zp)(t2:Bool):Option Bool:=
 (if t2=true then(some false) else(if a1.State=1 then(some (decide ((a1.Shares.length:Int)=0))) else(if a1.State=2 then((jI a1.Shares 0).bind fun v7=>(if v7=true then((jI a1.Shares 2).bind fun v10=>(some (!v10))) else(some false))) else(if a1.State=3 then((jI a1.Shares 0).bind fun v13=>(if v13=true then(some false) else((jI a1.Shares 2).bind fun v16=>(some (!v16))))) else(some (decide (a1.State=4)))))))
def Jg(a1:zp):Option Bool:=
 ((Zn a1.Client).bind fun v18=>(if v18=true then((Jr a1.Req).bind fun v21=>(if v21=true then((yT a1.Shares).bind fun v24=>((Zg a1) (!v24))) else((Zg a1) true))) else((Zg a1) true)))
def Qd(a1:zp)(a2:zp):Option Bool:=
 (if a1.Client=a2.Client then(some (decide (a1.Req=a2.Req))) else(some false))
def qX(t3:Unit):Option Int:=
 (some (-1))
def qx(a1:(List zp))(a2:zp)(kx4:(Unit→Option Int))(kb6:(Int→Option Int))(s5:Int):Option Int:=
 (if s5 < (a1.length:Int) then((idx a1 s5).bind fun v8=>((Qd v8 a2).bind fun v10=>(if v10=true then(some s5) else(kb6 (IntKind.wrap .i64 (s5+1)))))) else(kx4 ()))
def qB(a1:(List zp))(a2:zp):Option Int:=
 (iter (qx a1 a2 qX) FU 0)
def z6(a1:(List zp))(a2:zp):Option Bool:=
 ((qB a1 a2).bind fun v3=>(some (decide (0≤v3))))
def Qm(t3:Unit):Option Int:=
 (some (-1))
def yi(a1:(List Int))(a2:Int)(kx4:(Unit→Option Int))(kb6:(Int→Option Int))(s5:Int):Option Int:=
 (if s5 < (a1.length:Int) then((idx a1 s5).bind fun v8=>(if a2=v8 then(some s5) else(kb6 (IntKind.wrap .i64 (s5+1))))) else(kx4 ()))
def jX(a1:(List Int))(a2:Int):Option Int:=
 (iter (yi a1 a2 Qm) FU 0)
def jp(a1:(List Int))(a2:Int):Option Bool:=
 ((jX a1 a2).bind fun v3=>(some (decide (0≤v3))))
def QM(t3:Int)(a1:zw)(t5:Unit):Option Bool:=
 (some (decide (t3=(a1.Order.length:Int))))
def jO(kb8:(Int→Option Bool))(s7:Int)(t12:Bool):Option Bool:=
 (if t12=true then(some false) else(kb8 (IntKind.wrap .i64 (s7+1))))
def QG(a1:zw)(kx6:(Unit→Option Bool))(kb8:(Int→Option Bool))(s7:Int):Option Bool:=
 (if s7 < (a1.Order.length:Int) then((idx a1.Order s7).bind fun v10=>((qY v10 1 (a1.Recs.length:Int)).bind fun v15=>(if v15=true then((idx a1.Recs (IntKind.wrap .i64 (v10 - 1))).bind fun v18=>(if ¬v18.State=3 then((jO kb8 s7) true) else((cut a1.Order 0 s7).bind fun v21=>((jp v21 v10).bind fun v23=>((jO kb8 s7) v23))))) else((jO kb8 s7) true)))) else(kx6 ()))
def QE(a1:zw)(t3:Int):Option Bool:=
 (iter (QG a1 (QM t3 a1)) FU 0)
def jM(v28:zp)(kb26:((Int×Int)→Option Bool))(s25:(Int×Int))(t30:Bool):Option Bool:=
 (if t30=true then(some false) else(if v28.State=3 then(kb26 ((IntKind.wrap .i64 (s25.1+1)),(IntKind.wrap .i64 (s25.2+1)))) else(kb26 (s25.1,(IntKind.wrap .i64 (s25.2+1))))))
def Qg(a1:zw)(kx4:(Int→Option Bool))(kb26:((Int×Int)→Option Bool))(s25:(Int×Int)):Option Bool:=
 (if s25.2 < (a1.Recs.length:Int) then((idx a1.Recs s25.2).bind fun v28=>(if ¬v28.Tx=(IntKind.wrap .i64 (s25.2+1)) then((jM v28 kb26 s25) true) else((Jg v28).bind fun v35=>(if v35=true then((cut a1.Recs 0 s25.2).bind fun v38=>((z6 v38 v28).bind fun v40=>((jM v28 kb26 s25) v40))) else((jM v28 kb26 s25) true))))) else(kx4 s25.1))
def Zu(a1:zw):Option Bool:=
 (if 60 < (a1.Recs.length:Int) then(some false) else(iter (Qg a1 (QE a1)) FU (0,0)))
def ji(a1:(List Int))(t2:Unit):Option (List Int):=
 (if a1.length≤2147483648 then(some a1) else none)
def jV(a1:(List Int)):Option (List Int):=
 (if a1.length=0 then((ji a1) ()) else((ji a1) ()))
def qS(a1:(List zC))(t2:Unit):Option (List zC):=
 (if a1.length≤2147483648 then(some a1) else none)
def jA(a1:(List zC)):Option (List zC):=
 (if a1.length=0 then((qS a1) ()) else((qS a1) ()))
def qT(a1:(List zO))(t2:Unit):Option (List zO):=
 (if a1.length≤2147483648 then(some a1) else none)
def jB(a1:(List zO)):Option (List zO):=
 (if a1.length=0 then((qT a1) ()) else((qT a1) ()))
def yQ(t2:(List zb)):Option (List zb):=
 (some t2)
def yx(a1:(List zb))(kx3:((List zb)→Option (List zb)))(kb5:(((List zb)×Int)→Option (List zb)))(s4:((List zb)×Int)):Option (List zb):=
 (if s4.2 < (a1.length:Int) then((idx a1 s4.2).bind fun v7=>((jA v7.Reads).bind fun v9=>((jB v7.Writes).bind fun v11=>(if (s4.1++[(zb.mk v7.Group v9 v11 v7.Vote)]).length≤2147483648 then(kb5 ((s4.1++[(zb.mk v7.Group v9 v11 v7.Vote)]),(IntKind.wrap .i64 (s4.2+1)))) else none)))) else(kx3 s4.1))
def yb(a1:(List zb)):Option (List zb):=
 (iter (yx a1 yQ) FU (([]:List zb),0))
def Zm(v2:(List Int))(t4:(List zp)):Option zw:=
 (some (zw.mk t4 v2))
def Zh(a1:zw)(kx5:((List zp)→Option zw))(kb7:((Int×(List zp))→Option zw))(s6:(Int×(List zp))):Option zw:=
 (if s6.1 < (a1.Recs.length:Int) then((idx a1.Recs s6.1).bind fun v9=>((yb v9.Shares).bind fun v11=>(if (s6.2++[(zp.mk v9.Tx v9.Client v9.Req v9.State v11)]).length≤2147483648 then(kb7 ((IntKind.wrap .i64 (s6.1+1)),(s6.2++[(zp.mk v9.Tx v9.Client v9.Req v9.State v11)]))) else none))) else(kx5 s6.2))
def yt(a1:zw):Option zw:=
 ((jV a1.Order).bind fun v2=>(iter (Zh a1 (Zm v2)) FU (0,([]:List zp))))
def J6(a1:zw)(a2:Int):Option Bool:=
 ((qY a2 1 (a1.Recs.length:Int)).bind fun v3=>(some v3))
def yM(a1:zb)(a2:Int):Option Bool:=
 (if a1.Group=a2 then(some (decide (a1.Vote=0))) else(some false))
def qH(t3:Unit):Option Int:=
 (some (-1))
def qf(a1:(List zb))(a2:Int)(kx4:(Unit→Option Int))(kb6:(Int→Option Int))(s5:Int):Option Int:=
 (if s5 < (a1.length:Int) then((idx a1 s5).bind fun v8=>((yM v8 a2).bind fun v10=>(if v10=true then(some s5) else(kb6 (IntKind.wrap .i64 (s5+1)))))) else(kx4 ()))
def z4(a1:(List zb))(a2:Int):Option Int:=
 (iter (qf a1 a2 qH) FU 0)
def jW(t24:((List zp)×(List Int))):Option (zw×Int):=
 (some ((zw.mk t24.1 t24.2),0))
def jv(v8:zw)(a4:Bool)(v13:zp)(v15:Int)(a2:Int)(t17:Bool):Option (zw×Int):=
 (if t17=true then(some (v8,3)) else(if a4=true then((idx v13.Shares v15).bind fun v22=>((jI ((zp.mk v13.Tx v13.Client v13.Req v13.State (v13.Shares.set (Int.toNat v15) (zb.mk v22.Group v22.Reads v22.Writes 1))).Shares) 0).bind fun v26=>(if v26=true then(jW (v8.Recs.set (Int.toNat (IntKind.wrap .i64 (a2 - 1))) (zp.mk v13.Tx v13.Client v13.Req v13.State (v13.Shares.set (Int.toNat v15) (zb.mk v22.Group v22.Reads v22.Writes 1))),v8.Order)) else(if (v8.Order++([a2])).length≤2147483648 then(jW ((v8.Recs.set (Int.toNat (IntKind.wrap .i64 (a2 - 1))) (zp.mk v13.Tx v13.Client v13.Req v13.State (v13.Shares.set (Int.toNat v15) (zb.mk v22.Group v22.Reads v22.Writes 1)))).set (Int.toNat (IntKind.wrap .i64 (a2 - 1))) (zp.mk ((zp.mk v13.Tx v13.Client v13.Req v13.State (v13.Shares.set (Int.toNat v15) (zb.mk v22.Group v22.Reads v22.Writes 1))).Tx) ((zp.mk v13.Tx v13.Client v13.Req v13.State (v13.Shares.set (Int.toNat v15) (zb.mk v22.Group v22.Reads v22.Writes 1))).Client) ((zp.mk v13.Tx v13.Client v13.Req v13.State (v13.Shares.set (Int.toNat v15) (zb.mk v22.Group v22.Reads v22.Writes 1))).Req) 3 ((zp.mk v13.Tx v13.Client v13.Req v13.State (v13.Shares.set (Int.toNat v15) (zb.mk v22.Group v22.Reads v22.Writes 1))).Shares)),(v8.Order++([a2])))) else none)))) else((idx v13.Shares v15).bind fun v31=>(some ((zw.mk ((v8.Recs.set (Int.toNat (IntKind.wrap .i64 (a2 - 1))) (zp.mk v13.Tx v13.Client v13.Req v13.State (v13.Shares.set (Int.toNat v15) (zb.mk v31.Group v31.Reads v31.Writes 2)))).set (Int.toNat (IntKind.wrap .i64 (a2 - 1))) (zp.mk ((zp.mk v13.Tx v13.Client v13.Req v13.State (v13.Shares.set (Int.toNat v15) (zb.mk v31.Group v31.Reads v31.Writes 2))).Tx) ((zp.mk v13.Tx v13.Client v13.Req v13.State (v13.Shares.set (Int.toNat v15) (zb.mk v31.Group v31.Reads v31.Writes 2))).Client) ((zp.mk v13.Tx v13.Client v13.Req v13.State (v13.Shares.set (Int.toNat v15) (zb.mk v31.Group v31.Reads v31.Writes 2))).Req) 4 ((zp.mk v13.Tx v13.Client v13.Req v13.State (v13.Shares.set (Int.toNat v15) (zb.mk v31.Group v31.Reads v31.Writes 2))).Shares))) v8.Order),0)))))
def jL(a1:zw)(a2:Int)(a3:Int)(a4:Bool):Option (zw×Int):=
 ((Zu a1).bind fun v5=>(if v5=true then((yt a1).bind fun v8=>((J6 a1 a2).bind fun v10=>(if v10=true then((idx v8.Recs (IntKind.wrap .i64 (a2 - 1))).bind fun v13=>((z4 v13.Shares a3).bind fun v15=>(if ¬v13.State=2 then((jv v8 a4 v13 v15 a2) true) else((jv v8 a4 v13 v15 a2) (decide (v15 < 0)))))) else(some (v8,2))))) else(some ((zw.mk ([]:(List zp)) ([]:(List Int))),1))))
def Zt(a1:zC)(a2:zC):Option Bool:=
 (if ¬a1.Lo=a2.Lo then(some false) else(if ¬a1.Hi=a2.Hi then(some false) else(some true)))
def JE(t4:Unit):Option Bool:=
 (some true)
def Z7(a1:(List zC))(a2:(List zC))(kx5:(Unit→Option Bool))(kb7:(Int→Option Bool))(s6:Int):Option Bool:=
 (if s6 < (a1.length:Int) then((idx a1 s6).bind fun v9=>((idx a2 s6).bind fun v11=>((Zt v9 v11).bind fun v13=>(if v13=true then(kb7 (IntKind.wrap .i64 (s6+1))) else(some false))))) else(kx5 ()))
def y4(a1:(List zC))(a2:(List zC)):Option Bool:=
 (if ¬(a1.length:Int)=(a2.length:Int) then(some false) else(iter (Z7 a1 a2 JE) FU 0))
def Zp(a1:zO)(a2:zO):Option Bool:=
 (if ¬a1.Key=a2.Key then(some false) else(if ¬a1.Value=a2.Value then(some false) else(some true)))
def JB(t4:Unit):Option Bool:=
 (some true)
def ZJ(a1:(List zO))(a2:(List zO))(kx5:(Unit→Option Bool))(kb7:(Int→Option Bool))(s6:Int):Option Bool:=
 (if s6 < (a1.length:Int) then((idx a1 s6).bind fun v9=>((idx a2 s6).bind fun v11=>((Zp v9 v11).bind fun v13=>(if v13=true then(kb7 (IntKind.wrap .i64 (s6+1))) else(some false))))) else(kx5 ()))
def y8(a1:(List zO))(a2:(List zO)):Option Bool:=
 (if ¬(a1.length:Int)=(a2.length:Int) then(some false) else(iter (ZJ a1 a2 JB) FU 0))
def ZA(a1:zb)(a2:zb):Option Bool:=
 (if ¬a1.Group=a2.Group then(some false) else((y4 a1.Reads a2.Reads).bind fun v4=>(if v4=true then((y8 a1.Writes a2.Writes).bind fun v7=>(if v7=true then(if ¬a1.Vote=a2.Vote then(some false) else(some true)) else(some false))) else(some false))))
def JC(t4:Unit):Option Bool:=
 (some true)
def ZT(a1:(List zb))(a2:(List zb))(kx5:(Unit→Option Bool))(kb7:(Int→Option Bool))(s6:Int):Option Bool:=
 (if s6 < (a1.length:Int) then((idx a1 s6).bind fun v9=>((idx a2 s6).bind fun v11=>((ZA v9 v11).bind fun v13=>(if v13=true then(kb7 (IntKind.wrap .i64 (s6+1))) else(some false))))) else(kx5 ()))
def yZ(a1:(List zb))(a2:(List zb)):Option Bool:=
 (if ¬(a1.length:Int)=(a2.length:Int) then(some false) else(iter (ZT a1 a2 JC) FU 0))
def Jl(a1:zp)(a2:zp):Option Bool:=
 (if ¬a1.Tx=a2.Tx then(some false) else(if ¬a1.Client=a2.Client then(some false) else(if ¬a1.Req=a2.Req then(some false) else(if ¬a1.State=a2.State then(some false) else((yZ a1.Shares a2.Shares).bind fun v7=>(if v7=true then(some true) else(some false)))))))
def Yl(t4:Unit):Option Bool:=
 (some true)
def Q0(a1:(List zp))(a2:(List zp))(kx5:(Unit→Option Bool))(kb7:(Int→Option Bool))(s6:Int):Option Bool:=
 (if s6 < (a1.length:Int) then((idx a1 s6).bind fun v9=>((idx a2 s6).bind fun v11=>((Jl v9 v11).bind fun v13=>(if v13=true then(kb7 (IntKind.wrap .i64 (s6+1))) else(some false))))) else(kx5 ()))
def Qn(a1:(List zp))(a2:(List zp)):Option Bool:=
 (if ¬(a1.length:Int)=(a2.length:Int) then(some false) else(iter (Q0 a1 a2 Yl) FU 0))
def Ys(t4:Unit):Option Bool:=
 (some true)
def QZ(a1:(List Int))(a2:(List Int))(kx5:(Unit→Option Bool))(kb7:(Int→Option Bool))(s6:Int):Option Bool:=
 (if s6 < (a1.length:Int) then((idx a1 s6).bind fun v9=>((idx a2 s6).bind fun v11=>(if ¬v9=v11 then(some false) else(kb7 (IntKind.wrap .i64 (s6+1)))))) else(kx5 ()))
def Qu(a1:(List Int))(a2:(List Int)):Option Bool:=
 (if ¬(a1.length:Int)=(a2.length:Int) then(some false) else(iter (QZ a1 a2 Ys) FU 0))
def qU(a1:zw)(a2:zw):Option Bool:=
 ((Qn a1.Recs a2.Recs).bind fun v3=>(if v3=true then((Qu a1.Order a2.Order).bind fun v6=>(if v6=true then(some true) else(some false))) else(some false)))
def yG(a1:(List zC))(t3:((List zC)×Int)):Option (Int×(List zC)):=
 (if t3.1.length=a1.length then(some (t3.2,t3.1)) else none)
def yy(kx4:(((List zC)×Int)→Option (Int×(List zC))))(kb7:(((List zC)×Int×Int)→Option (Int×(List zC))))(s6:((List zC)×Int×Int)):Option (Int×(List zC)):=
 (if s6.2.2 < ((s6.1.length:Nat):Int) then((idx s6.1 s6.2.2).bind fun v9=>((idx (s6.1.set (Int.toNat s6.2.2) (zC.mk s6.2.1 v9.Hi)) s6.2.2).bind fun v11=>(kb7 ((s6.1.set (Int.toNat s6.2.2) (zC.mk s6.2.1 v9.Hi)).set (Int.toNat s6.2.2) (zC.mk v11.Lo (IntKind.wrap .i64 (s6.2.1+1))),(IntKind.wrap .i64 ((IntKind.wrap .i64 (s6.2.1+1))+1)),(IntKind.wrap .i64 (s6.2.2+1)))))) else(kx4 (s6.1,s6.2.1)))
def j7(a1:(List zC))(a2:Int):Option (Int×(List zC)):=
 (iter (yy (yG a1)) FU (a1,a2,0))
def yI(a1:(List zO))(t3:((List zO)×Int)):Option (Int×(List zO)):=
 (if t3.1.length=a1.length then(some (t3.2,t3.1)) else none)
def yK(kx4:(((List zO)×Int)→Option (Int×(List zO))))(kb7:(((List zO)×Int×Int)→Option (Int×(List zO))))(s6:((List zO)×Int×Int)):Option (Int×(List zO)):=
 (if s6.2.2 < ((s6.1.length:Nat):Int) then((idx s6.1 s6.2.2).bind fun v9=>((idx (s6.1.set (Int.toNat s6.2.2) (zO.mk s6.2.1 v9.Value)) s6.2.2).bind fun v11=>(kb7 ((s6.1.set (Int.toNat s6.2.2) (zO.mk s6.2.1 v9.Value)).set (Int.toNat s6.2.2) (zO.mk v11.Key (IntKind.wrap .i64 (s6.2.1+1))),(IntKind.wrap .i64 ((IntKind.wrap .i64 (s6.2.1+1))+1)),(IntKind.wrap .i64 (s6.2.2+1)))))) else(kx4 (s6.1,s6.2.1)))
def j9(a1:(List zO))(a2:Int):Option (Int×(List zO)):=
 (iter (yK (yI a1)) FU (a1,a2,0))
def yN(a1:(List zb))(t3:((List zb)×Int)):Option (Int×(List zb)):=
 (if t3.1.length=a1.length then(some (t3.2,t3.1)) else none)
def yE(kx4:(((List zb)×Int)→Option (Int×(List zb))))(kb7:(((List zb)×Int×Int)→Option (Int×(List zb))))(s6:((List zb)×Int×Int)):Option (Int×(List zb)):=
 (if s6.2.2 < ((s6.1.length:Nat):Int) then((idx s6.1 s6.2.2).bind fun v9=>((idx (s6.1.set (Int.toNat s6.2.2) (zb.mk s6.2.1 v9.Reads v9.Writes v9.Vote)) s6.2.2).bind fun v11=>((j7 v11.Reads (IntKind.wrap .i64 (s6.2.1+1))).bind fun v13=>((idx ((s6.1.set (Int.toNat s6.2.2) (zb.mk s6.2.1 v9.Reads v9.Writes v9.Vote)).set (Int.toNat s6.2.2) (zb.mk v11.Group v13.2 v11.Writes v11.Vote)) s6.2.2).bind fun v15=>((j9 v15.Writes v13.1).bind fun v17=>((idx (((s6.1.set (Int.toNat s6.2.2) (zb.mk s6.2.1 v9.Reads v9.Writes v9.Vote)).set (Int.toNat s6.2.2) (zb.mk v11.Group v13.2 v11.Writes v11.Vote)).set (Int.toNat s6.2.2) (zb.mk v15.Group v15.Reads v17.2 v15.Vote)) s6.2.2).bind fun v19=>(kb7 ((((s6.1.set (Int.toNat s6.2.2) (zb.mk s6.2.1 v9.Reads v9.Writes v9.Vote)).set (Int.toNat s6.2.2) (zb.mk v11.Group v13.2 v11.Writes v11.Vote)).set (Int.toNat s6.2.2) (zb.mk v15.Group v15.Reads v17.2 v15.Vote)).set (Int.toNat s6.2.2) (zb.mk v19.Group v19.Reads v19.Writes v17.1),(IntKind.wrap .i64 (v17.1+1)),(IntKind.wrap .i64 (s6.2.2+1)))))))))) else(kx4 (s6.1,s6.2.1)))
def j6(a1:(List zb))(a2:Int):Option (Int×(List zb)):=
 (iter (yE (yN a1)) FU (a1,a2,0))
def ZP(a1:(List zp))(t3:((List zp)×Int)):Option (Int×(List zp)):=
 (if t3.1.length=a1.length then(some (t3.2,t3.1)) else none)
def ZN(kx4:(((List zp)×Int)→Option (Int×(List zp))))(kb7:(((List zp)×Int×Int)→Option (Int×(List zp))))(s6:((List zp)×Int×Int)):Option (Int×(List zp)):=
 (if s6.2.2 < ((s6.1.length:Nat):Int) then((idx s6.1 s6.2.2).bind fun v9=>((idx (s6.1.set (Int.toNat s6.2.2) (zp.mk s6.2.1 v9.Client v9.Req v9.State v9.Shares)) s6.2.2).bind fun v11=>((idx ((s6.1.set (Int.toNat s6.2.2) (zp.mk s6.2.1 v9.Client v9.Req v9.State v9.Shares)).set (Int.toNat s6.2.2) (zp.mk v11.Tx (IntKind.wrap .i64 (s6.2.1+1)) v11.Req v11.State v11.Shares)) s6.2.2).bind fun v13=>((idx (((s6.1.set (Int.toNat s6.2.2) (zp.mk s6.2.1 v9.Client v9.Req v9.State v9.Shares)).set (Int.toNat s6.2.2) (zp.mk v11.Tx (IntKind.wrap .i64 (s6.2.1+1)) v11.Req v11.State v11.Shares)).set (Int.toNat s6.2.2) (zp.mk v13.Tx v13.Client (IntKind.wrap .i64 ((IntKind.wrap .i64 (s6.2.1+1))+1)) v13.State v13.Shares)) s6.2.2).bind fun v15=>((idx ((((s6.1.set (Int.toNat s6.2.2) (zp.mk s6.2.1 v9.Client v9.Req v9.State v9.Shares)).set (Int.toNat s6.2.2) (zp.mk v11.Tx (IntKind.wrap .i64 (s6.2.1+1)) v11.Req v11.State v11.Shares)).set (Int.toNat s6.2.2) (zp.mk v13.Tx v13.Client (IntKind.wrap .i64 ((IntKind.wrap .i64 (s6.2.1+1))+1)) v13.State v13.Shares)).set (Int.toNat s6.2.2) (zp.mk v15.Tx v15.Client v15.Req (IntKind.wrap .i64 ((IntKind.wrap .i64 ((IntKind.wrap .i64 (s6.2.1+1))+1))+1)) v15.Shares)) s6.2.2).bind fun v17=>((j6 v17.Shares (IntKind.wrap .i64 ((IntKind.wrap .i64 ((IntKind.wrap .i64 ((IntKind.wrap .i64 (s6.2.1+1))+1))+1))+1))).bind fun v19=>(kb7 (((((s6.1.set (Int.toNat s6.2.2) (zp.mk s6.2.1 v9.Client v9.Req v9.State v9.Shares)).set (Int.toNat s6.2.2) (zp.mk v11.Tx (IntKind.wrap .i64 (s6.2.1+1)) v11.Req v11.State v11.Shares)).set (Int.toNat s6.2.2) (zp.mk v13.Tx v13.Client (IntKind.wrap .i64 ((IntKind.wrap .i64 (s6.2.1+1))+1)) v13.State v13.Shares)).set (Int.toNat s6.2.2) (zp.mk v15.Tx v15.Client v15.Req (IntKind.wrap .i64 ((IntKind.wrap .i64 ((IntKind.wrap .i64 (s6.2.1+1))+1))+1)) v15.Shares)).set (Int.toNat s6.2.2) (zp.mk v17.Tx v17.Client v17.Req v17.State v19.2),v19.1,(IntKind.wrap .i64 (s6.2.2+1)))))))))) else(kx4 (s6.1,s6.2.1)))
def y6(a1:(List zp))(a2:Int):Option (Int×(List zp)):=
 (iter (ZN (ZP a1)) FU (a1,a2,0))
def ZQ(a1:(List Int))(t3:((List Int)×Int)):Option (Int×(List Int)):=
 (if t3.1.length=a1.length then(some (t3.2,t3.1)) else none)
def ZO(kx4:(((List Int)×Int)→Option (Int×(List Int))))(kb7:(((List Int)×Int×Int)→Option (Int×(List Int))))(s6:((List Int)×Int×Int)):Option (Int×(List Int)):=
 (if s6.2.2 < ((s6.1.length:Nat):Int) then((idx s6.1 s6.2.2).bind fun v9=>(kb7 (s6.1.set (Int.toNat s6.2.2) s6.2.1,(IntKind.wrap .i64 (s6.2.1+1)),(IntKind.wrap .i64 (s6.2.2+1))))) else(kx4 (s6.1,s6.2.1)))
def Zc(a1:(List Int))(a2:Int):Option (Int×(List Int)):=
 (iter (ZO (ZQ a1)) FU (a1,a2,0))
def qZ(a1:zw)(a2:Int):Option (Int×zw):=
 ((y6 a1.Recs a2).bind fun v3=>(if v3.2.length=a1.Recs.length then((Zc a1.Order v3.1).bind fun v6=>(if v6.2.length=a1.Order.length then(if v3.2.length=a1.Recs.length then(if v6.2.length=a1.Order.length then(some (v6.1,(zw.mk v3.2 v6.2))) else none) else none) else none)) else none))
def yB(t3:Int):Option Int:=
 (some t3)
def yJ(a1:(List zC))(kx4:(Int→Option Int))(kb6:((Int×Int)→Option Int))(s5:(Int×Int)):Option Int:=
 (if s5.2 < (a1.length:Int) then((idx a1 s5.2).bind fun v8=>(if ¬v8.Lo=s5.1 then(some (-1)) else((idx a1 s5.2).bind fun v11=>(if ¬v11.Hi=(IntKind.wrap .i64 (s5.1+1)) then(some (-1)) else(kb6 ((IntKind.wrap .i64 ((IntKind.wrap .i64 (s5.1+1))+1)),(IntKind.wrap .i64 (s5.2+1)))))))) else(kx4 s5.1))
def yc(a1:(List zC))(a2:Int):Option Int:=
 (iter (yJ a1 yB) FU (a2,0))
def yP(t3:Int):Option Int:=
 (some t3)
def yL(a1:(List zO))(kx4:(Int→Option Int))(kb6:((Int×Int)→Option Int))(s5:(Int×Int)):Option Int:=
 (if s5.2 < (a1.length:Int) then((idx a1 s5.2).bind fun v8=>(if ¬v8.Key=s5.1 then(some (-1)) else((idx a1 s5.2).bind fun v11=>(if ¬v11.Value=(IntKind.wrap .i64 (s5.1+1)) then(some (-1)) else(kb6 ((IntKind.wrap .i64 ((IntKind.wrap .i64 (s5.1+1))+1)),(IntKind.wrap .i64 (s5.2+1)))))))) else(kx4 s5.1))
def yg(a1:(List zO))(a2:Int):Option Int:=
 (iter (yL a1 yP) FU (a2,0))
def yD(t3:Int):Option Int:=
 (some t3)
def yR(a1:(List zb))(kx4:(Int→Option Int))(kb6:((Int×Int)→Option Int))(s5:(Int×Int)):Option Int:=
 (if s5.2 < (a1.length:Int) then((idx a1 s5.2).bind fun v8=>(if ¬v8.Group=s5.1 then(some (-1)) else((idx a1 s5.2).bind fun v11=>((yc v11.Reads (IntKind.wrap .i64 (s5.1+1))).bind fun v13=>(if v13 < 0 then(some (-1)) else((idx a1 s5.2).bind fun v16=>((yg v16.Writes v13).bind fun v18=>(if v18 < 0 then(some (-1)) else((idx a1 s5.2).bind fun v21=>(if ¬v21.Vote=v18 then(some (-1)) else(kb6 ((IntKind.wrap .i64 (v18+1)),(IntKind.wrap .i64 (s5.2+1)))))))))))))) else(kx4 s5.1))
def j8(a1:(List zb))(a2:Int):Option Int:=
 (iter (yR a1 yD) FU (a2,0))
def Qh(t3:Int):Option Int:=
 (some t3)
def ZK(a1:(List zp))(kx4:(Int→Option Int))(kb6:((Int×Int)→Option Int))(s5:(Int×Int)):Option Int:=
 (if s5.2 < (a1.length:Int) then((idx a1 s5.2).bind fun v8=>(if ¬v8.Tx=s5.1 then(some (-1)) else((idx a1 s5.2).bind fun v11=>(if ¬v11.Client=(IntKind.wrap .i64 (s5.1+1)) then(some (-1)) else((idx a1 s5.2).bind fun v14=>(if ¬v14.Req=(IntKind.wrap .i64 ((IntKind.wrap .i64 (s5.1+1))+1)) then(some (-1)) else((idx a1 s5.2).bind fun v17=>(if ¬v17.State=(IntKind.wrap .i64 ((IntKind.wrap .i64 ((IntKind.wrap .i64 (s5.1+1))+1))+1)) then(some (-1)) else((idx a1 s5.2).bind fun v20=>((j8 v20.Shares (IntKind.wrap .i64 ((IntKind.wrap .i64 ((IntKind.wrap .i64 ((IntKind.wrap .i64 (s5.1+1))+1))+1))+1))).bind fun v22=>(if v22 < 0 then(some (-1)) else(kb6 (v22,(IntKind.wrap .i64 (s5.2+1))))))))))))))) else(kx4 s5.1))
def y0(a1:(List zp))(a2:Int):Option Int:=
 (iter (ZK a1 Qh) FU (a2,0))
def ZI(t3:Int):Option Int:=
 (some t3)
def Z4(a1:(List Int))(kx4:(Int→Option Int))(kb6:((Int×Int)→Option Int))(s5:(Int×Int)):Option Int:=
 (if s5.2 < (a1.length:Int) then((idx a1 s5.2).bind fun v8=>(if ¬v8=s5.1 then(some (-1)) else(kb6 ((IntKind.wrap .i64 (s5.1+1)),(IntKind.wrap .i64 (s5.2+1)))))) else(kx4 s5.1))
def Ze(a1:(List Int))(a2:Int):Option Int:=
 (iter (Z4 a1 ZI) FU (a2,0))
def jN(a1:zw)(a2:Int):Option Int:=
 ((y0 a1.Recs a2).bind fun v3=>(if v3 < 0 then(some (-1)) else((Ze a1.Order v3).bind fun v6=>(if v6 < 0 then(some (-1)) else(some v6)))))
def qN(v31:(Int×zw))(t43:Bool):Option Bool:=
 (if t43=true then(some false) else((jN v31.2 1).bind fun v46=>(if v46 < 0 then(some false) else(if ¬v46=v31.1 then(some false) else(some true)))))
def qu(v14:(zw×Int))(a1:zw)(a2:Int)(a3:Int)(a4:Bool)(v10:(zw×Int))(t28:Bool):Option Bool:=
 (if t28=true then(some false) else((qZ v14.1 1).bind fun v31=>(if v31.2.Recs.length=v14.1.Recs.length then(if v31.2.Order.length=v14.1.Order.length then((jN v31.2 1).bind fun v35=>(if v35 < 0 then(some false) else(if ¬v35=v31.1 then(some false) else((jy a1).bind fun v39=>((jL v39 a2 a3 a4).bind fun v41=>((qU v41.1 v10.1).bind fun v50=>(if v50=true then((qN v31) (decide (¬v41.2=v10.2))) else((qN v31) true)))))))) else none) else none)))
def qM(a1:zw)(v12:zw)(v14:(zw×Int))(a2:Int)(a3:Int)(a4:Bool)(v10:(zw×Int))(t16:Bool):Option Bool:=
 (if t16=true then(some false) else((jy a1).bind fun v19=>((qU v12 v19).bind fun v21=>(if v21=true then((qZ v12 1).bind fun v24=>(if v24.2.Recs.length=v12.Recs.length then(if v24.2.Order.length=v12.Order.length then(if v24.1 < 0 then((qu v14 a1 a2 a3 a4 v10) true) else((qU v14.1 v10.1).bind fun v54=>(if v54=true then((qu v14 a1 a2 a3 a4 v10) (decide (¬v14.2=v10.2))) else((qu v14 a1 a2 a3 a4 v10) true)))) else none) else none)) else(some false)))))
def jG(a1:zw)(a2:Int)(a3:Int)(a4:Bool):Option Bool:=
 ((ZB a1 1048576).bind fun v5=>(if v5 < 0 then(some true) else((jy a1).bind fun v8=>((yj v8 a2 a3 a4).bind fun v10=>((jy a1).bind fun v12=>((jL v12 a2 a3 a4).bind fun v14=>((qU v14.1 v10.1).bind fun v57=>(if v57=true then((qM a1 v12 v14 a2 a3 a4 v10) (decide (¬v14.2=v10.2))) else((qM a1 v12 v14 a2 a3 a4 v10) true)))))))))
abbrev ql(x:zb):List C:=[(dI x.Group),(.d (.sl 2 (List.map zx x.Reads))),(.d (.sl 2 (List.map zG x.Writes))),(dI x.Vote)]
abbrev jc(x:zp):List C:=[(dI x.Tx),(dI x.Client),(dI x.Req),(dI x.State),(.d (.sl 4 (List.map zd x.Shares)))]
abbrev zH(x:zw):List C:=[(.d (.sl 5 (List.map zl x.Recs))),(.d (.sl 1 (List.map zA x.Order)))]
end Go.AW
