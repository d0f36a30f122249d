/- Plain functions that say what functions of the program compute. Conditions: none. -/
import Derived.Test.YtlcjjljmjdmobaaYi
set_option linter.unusedVariables false
set_option linter.unusedSimpArgs false
set_option maxRecDepth 100000
namespace Go.AW
abbrev zN(x:Int):List D:=[(.int .u8 x)]
structure qi where
 Lo:Int
 Hi:Int
deriving DecidableEq
structure qj where
 Key:Int
 Value:Int
deriving DecidableEq
structure zf where
 Group:Int
 Reads:(List qi)
 Writes:(List qj)
 Vote:Int
deriving DecidableEq
structure zi where
 Tx:Int
 Client:Int
 Req:Int
 State:Int
 Shares:(List zf)
deriving DecidableEq
structure zj where
 Recs:(List zi)
 Order:(List Int)
deriving DecidableEq
abbrev z4(x:qi):List D:=[(.int .i64 x.Lo),(.int .i64 x.Hi)]
abbrev zW(x:qj):List D:=[(.int .i64 x.Key),(.int .i64 x.Value)]
abbrev zg(x:zf):List D:=[(.int .i64 x.Group),(.sl 2 (List.map z4 x.Reads)),(.sl 2 (List.map zW x.Writes)),(.int .i64 x.Vote)]
abbrev zh(x:zi):List D:=[(.int .i64 x.Tx),(.int .i64 x.Client),(.int .i64 x.Req),(.int .i64 x.State),(.sl 4 (List.map zg x.Shares))]
abbrev zr(x:Int):List D:=[(.int .i64 x)]
abbrev qu(x:zj):List D:=[(.sl 5 (List.map zh x.Recs)),(.sl 1 (List.map zr x.Order))]
abbrev zmI(x:(List Int)):List D:=[(.sl 1 (List.map zN x))]
def xw(a1:(List Int)):Option Bool:=
 (some (decide (1048576 < (a1.length:Int))))
def Yh(t2:Int):Option (Int×Int):=
 (some (0,t2))
def Yi(cb1:(List Int))(kx3:(Int→Option (Int×Int)))(kb5:((Int×Int)→Option (Int×Int)))(s4:(Int×Int)):Option (Int×Int):=
 (if s4.2 < (cb1.length:Int) then(if s4.2 < 4000 then((idx cb1 s4.2).bind fun v8=>(kb5 ((IntKind.wrap .i64 (BitVec.ofInt (IntKind.bits .i64) (IntKind.wrap .i64 ((IntKind.wrap .i64 ((IntKind.wrap .i64 (s4.1 * 131))+(IntKind.wrap .i64 v8)))+7))&&& BitVec.ofInt (IntKind.bits .i64) 1073741823).toNat),(IntKind.wrap .i64 (s4.2+1))))) else(kx3 s4.1)) else(kx3 s4.1))
def JT(cb1:(List Int)):Option (Int×Int):=
 (iter (Yi cb1 Yh) FU ((IntKind.wrap .i64 (97097+(cb1.length:Int))),0))
def Jb(cb1:(List Int))(a2:Int):Option Int:=
 (if a2 < (IntKind.wrap .i64 (2+(IntKind.wrap .i64 (Int.tdiv (cb1.length:Int) 20)))) then(some a2) else(some (IntKind.wrap .i64 (2+(IntKind.wrap .i64 (Int.tdiv (cb1.length:Int) 20))))))
def ym(cb1:(List Int))(a2:(Int×Int)):Option (Int×(Int×Int)):=
 (if a2.1 < (cb1.length:Int) then((idx cb1 a2.1).bind fun v4=>(some ((IntKind.wrap .i64 (BitVec.ofInt (IntKind.bits .i64) (IntKind.wrap .i64 ((IntKind.wrap .i64 (BitVec.ofInt (IntKind.bits .i64) (IntKind.wrap .i64 (BitVec.ofInt (IntKind.bits .i64) (Int.fdiv (IntKind.wrap .i64 ((IntKind.wrap .i64 (a2.2 * 6364136223846793005))+1442695040888963407)) (2 ^ (min (Int.toNat 33) (IntKind.bits .i64)))) ^^^ BitVec.ofInt (IntKind.bits .i64) (Int.fdiv (IntKind.wrap .i64 ((IntKind.wrap .i64 (a2.2 * 6364136223846793005))+1442695040888963407)) (2 ^ (min (Int.toNat 45) (IntKind.bits .i64))))).toNat)&&& BitVec.ofInt (IntKind.bits .i64) 255).toNat)+(IntKind.wrap .i64 v4)))&&& BitVec.ofInt (IntKind.bits .i64) 255).toNat),((IntKind.wrap .i64 (a2.1+1)),(IntKind.wrap .i64 ((IntKind.wrap .i64 (a2.2 * 6364136223846793005))+1442695040888963407)))))) else(some ((IntKind.wrap .i64 (BitVec.ofInt (IntKind.bits .i64) (IntKind.wrap .i64 (BitVec.ofInt (IntKind.bits .i64) (Int.fdiv (IntKind.wrap .i64 ((IntKind.wrap .i64 (a2.2 * 6364136223846793005))+1442695040888963407)) (2 ^ (min (Int.toNat 33) (IntKind.bits .i64)))) ^^^ BitVec.ofInt (IntKind.bits .i64) (Int.fdiv (IntKind.wrap .i64 ((IntKind.wrap .i64 (a2.2 * 6364136223846793005))+1442695040888963407)) (2 ^ (min (Int.toNat 45) (IntKind.bits .i64))))).toNat)&&& BitVec.ofInt (IntKind.bits .i64) 255).toNat),(a2.1,(IntKind.wrap .i64 ((IntKind.wrap .i64 (a2.2 * 6364136223846793005))+1442695040888963407))))))
def zC(cb1:(List Int))(a2:(Int×Int))(a3:Int):Option (Int×(Int×Int)):=
 (if a3≤0 then(some (0,a2)) else(if a3≤256 then((ym cb1 a2).bind fun v6=>(if ¬a3=0 then(some ((Int.tmod v6.1 a3),v6.2)) else none)) else((ym cb1 a2).bind fun v9=>((ym cb1 v9.2).bind fun v11=>((ym cb1 v11.2).bind fun v13=>((ym cb1 v13.2).bind fun v15=>(if ¬a3=0 then(some ((Int.tmod (IntKind.wrap .i64 ((IntKind.wrap .i64 ((IntKind.wrap .i64 ((IntKind.wrap .i64 (v9.1 * 16777216))+(IntKind.wrap .i64 (v11.1 * 65536))))+(IntKind.wrap .i64 (v13.1 * 256))))+v15.1)) a3),v15.2)) else none)))))))
def qw(cb1:(List Int))(a2:(Int×Int))(a3:Int):Option (Bool×(Int×Int)):=
 ((zC cb1 a2 a3).bind fun v4=>(some ((decide (v4.1=0)),v4.2)))
def jb(a1:Int)(a2:Int)(a3:Int):Option Bool:=
 (if a2≤a1 then(some (decide (a1≤a3))) else(some false))
def ZU(a1:Int):Option Bool:=
 ((jb a1 0 1000000000).bind fun v2=>(some v2))
def Jg(a1:Int):Option Bool:=
 ((jb a1 0 999).bind fun v2=>(some v2))
def J4(t3:Unit):Option Bool:=
 (some true)
def yh(kb6:(Int→Option Bool))(s5:Int)(t8:Bool):Option Bool:=
 (if t8=true then(some false) else(kb6 (IntKind.wrap .i64 (s5+1))))
def QQ(a1:(List qj))(kx4:(Unit→Option Bool))(kb6:(Int→Option Bool))(s5:Int):Option Bool:=
 (if s5 < (a1.length:Int) then((idx a1 s5).bind fun v11=>((Jg v11.Key).bind fun v13=>(if v13=true then((idx a1 s5).bind fun v16=>((jb v16.Value (-1) 1000000000).bind fun v18=>(if v18=true then(if 0 < s5 then((idx a1 (IntKind.wrap .i64 (s5 - 1))).bind fun v22=>((idx a1 s5).bind fun v24=>((yh kb6 s5) (decide (v24.Key≤v22.Key))))) else((yh kb6 s5) false)) else((yh kb6 s5) true)))) else((yh kb6 s5) true)))) else(kx4 ()))
def Zq(a1:(List qj)):Option Bool:=
 (if 60 < (a1.length:Int) then(some false) else(iter (QQ a1 J4) FU 0))
def QI(a1:qi):Option Bool:=
 (if 0≤a1.Lo then(if a1.Lo < a1.Hi then(some (decide (a1.Hi≤1000))) else(some false)) else(some false))
def J5(t3:Unit):Option Bool:=
 (some true)
def qJ(kb6:(Int→Option Bool))(s5:Int)(t8:Unit):Option Bool:=
 (kb6 (IntKind.wrap .i64 (s5+1)))
def Zw(v10:zf)(kx9:(Unit→Option Bool))(kb16:(Int→Option Bool))(s15:Int):Option Bool:=
 (if s15 < (v10.Reads.length:Int) then((idx v10.Reads s15).bind fun v18=>((QI v18).bind fun v20=>(if v20=true then(kb16 (IntKind.wrap .i64 (s15+1))) else(some false)))) else(kx9 ()))
def qL(v10:zf)(kx9:(Unit→Option Bool))(t12:Bool):Option Bool:=
 (if t12=true then(some false) else(iter (Zw v10 kx9) FU 0))
def QL(a1:(List zf))(kx4:(Unit→Option Bool))(kb6:(Int→Option Bool))(s5:Int):Option Bool:=
 (if s5 < (a1.length:Int) then((idx a1 s5).bind fun v10=>((jb v10.Group 0 3).bind fun v23=>(if v23=true then(if 0 < s5 then((idx a1 (IntKind.wrap .i64 (s5 - 1))).bind fun v27=>(if v10.Group≤v27.Group then((qL v10 (qJ kb6 s5)) true) else(if 16 < (v10.Reads.length:Int) then((qL v10 (qJ kb6 s5)) true) else((Zq v10.Writes).bind fun v31=>(if v31=true then((jb v10.Vote 0 2).bind fun v34=>((qL v10 (qJ kb6 s5)) (!v34))) else((qL v10 (qJ kb6 s5)) true)))))) else(if 16 < (v10.Reads.length:Int) then((qL v10 (qJ kb6 s5)) true) else((Zq v10.Writes).bind fun v37=>(if v37=true then((jb v10.Vote 0 2).bind fun v40=>((qL v10 (qJ kb6 s5)) (!v40))) else((qL v10 (qJ kb6 s5)) true))))) else((qL v10 (qJ kb6 s5)) true)))) else(kx4 ()))
def Zr(a1:(List zf)):Option Bool:=
 (if 4 < (a1.length:Int) then(some false) else(iter (QL a1 J5) FU 0))
def QY(t3:Int):Option Int:=
 (some t3)
def QV(a1:(List zf))(a2:Int)(kx4:(Int→Option Int))(kb6:((Int×Int)→Option Int))(s5:(Int×Int)):Option Int:=
 (if s5.2 < (a1.length:Int) then((idx a1 s5.2).bind fun v8=>(if v8.Vote=a2 then(kb6 ((IntKind.wrap .i64 (s5.1+1)),(IntKind.wrap .i64 (s5.2+1)))) else(kb6 (s5.1,(IntKind.wrap .i64 (s5.2+1)))))) else(kx4 s5.1))
def jP(a1:(List zf))(a2:Int):Option Int:=
 (iter (QV a1 a2 QY) FU (0,0))
def yT(a1:zi)(t2:Bool):Option Bool:=
 (if t2=true then(some false) else(if a1.State=1 then(some (decide ((a1.Shares.length:Int)=0))) else(if a1.State=2 then((jP a1.Shares 0).bind fun v7=>(if 0 < v7 then((jP a1.Shares 2).bind fun v10=>(some (decide (v10=0)))) else(some false))) else(if a1.State=3 then((jP a1.Shares 1).bind fun v13=>(some (decide (v13=(a1.Shares.length:Int))))) else(some (decide (a1.State=4)))))))
def Qm(a1:zi):Option Bool:=
 ((ZU a1.Client).bind fun v15=>(if v15=true then((jb a1.Req 1 1000000000).bind fun v18=>(if v18=true then((Zr a1.Shares).bind fun v21=>((yT a1) (!v21))) else((yT a1) true))) else((yT a1) true)))
def YL(t3:Unit):Option Bool:=
 (some false)
def JP(a1:(List Int))(a2:Int)(kx4:(Unit→Option Bool))(kb6:(Int→Option Bool))(s5:Int):Option Bool:=
 (if s5 < (a1.length:Int) then((idx a1 s5).bind fun v8=>(if v8=a2 then(some true) else(kb6 (IntKind.wrap .i64 (s5+1))))) else(kx4 ()))
def Jd(a1:(List Int))(a2:Int):Option Bool:=
 (iter (JP a1 a2 YL) FU 0)
def Jn(t5:Int)(a1:zj)(t7:Unit):Option Bool:=
 (some (decide (t5=(a1.Order.length:Int))))
def yQ(kb10:(Int→Option Bool))(s9:Int)(t14:Bool):Option Bool:=
 (if t14=true then(some false) else(kb10 (IntKind.wrap .i64 (s9+1))))
def Jo(a1:zj)(kx8:(Unit→Option Bool))(kb10:(Int→Option Bool))(s9:Int):Option Bool:=
 (if s9 < (a1.Order.length:Int) then((idx a1.Order s9).bind fun v12=>((jb v12 1 (a1.Recs.length:Int)).bind fun v17=>(if v17=true then((idx a1.Recs (IntKind.wrap .i64 (v12 - 1))).bind fun v20=>(if ¬v20.State=3 then((yQ kb10 s9) true) else((cut a1.Order 0 s9).bind fun v23=>((Jd v23 v12).bind fun v25=>((yQ kb10 s9) v25))))) else((yQ kb10 s9) true)))) else(kx8 ()))
def Ji(a1:zj)(t5:Int):Option Bool:=
 (iter (Jo a1 (Jn t5 a1)) FU 0)
def ye(kb28:((Int×Int)→Option Bool))(s27:(Int×Int))(t30:Int):Option Bool:=
 (kb28 (t30,(IntKind.wrap .i64 (s27.2+1))))
def QZ(v32:zi)(kx31:(Int→Option Bool))(s27:(Int×Int))(t37:Unit):Option Bool:=
 (if v32.State=3 then(kx31 (IntKind.wrap .i64 (s27.1+1))) else(kx31 s27.1))
def Z7(kb41:(Int→Option Bool))(s40:Int)(t43:Bool):Option Bool:=
 (if t43=true then(some false) else(kb41 (IntKind.wrap .i64 (s40+1))))
def ZY(s27:(Int×Int))(a1:zj)(v32:zi)(kx38:(Unit→Option Bool))(kb41:(Int→Option Bool))(s40:Int):Option Bool:=
 (if s40 < s27.2 then((idx a1.Recs s40).bind fun v46=>(if v46.Client=v32.Client then((idx a1.Recs s40).bind fun v49=>((Z7 kb41 s40) (decide (v49.Req=v32.Req)))) else((Z7 kb41 s40) false))) else(kx38 ()))
def ZX(s27:(Int×Int))(a1:zj)(v32:zi)(kx31:(Int→Option Bool))(t34:Bool):Option Bool:=
 (if t34=true then(some false) else(iter (ZY s27 a1 v32 (QZ v32 kx31 s27)) FU 0))
def Q0(a1:zj)(kx6:(Int→Option Bool))(kb28:((Int×Int)→Option Bool))(s27:(Int×Int)):Option Bool:=
 (if s27.2 < (a1.Recs.length:Int) then((idx a1.Recs s27.2).bind fun v32=>(if ¬v32.Tx=(IntKind.wrap .i64 (s27.2+1)) then((ZX s27 a1 v32 (ye kb28 s27)) true) else((Qm v32).bind fun v52=>((ZX s27 a1 v32 (ye kb28 s27)) (!v52))))) else(kx6 s27.1))
def Qi(a1:zj)(t2:Bool):Option Bool:=
 (if t2=true then(some false) else(iter (Q0 a1 (Ji a1)) FU (0,0)))
def jv(a1:zj):Option Bool:=
 (if 60 < (a1.Recs.length:Int) then((Qi a1) true) else((Qi a1) (decide (60 < (a1.Order.length:Int)))))
def Qv(t2:(List zf)):Option (List zf):=
 (some t2)
def Qz(a1:(List zf))(kx3:((List zf)→Option (List zf)))(kb5:(((List zf)×Int)→Option (List zf)))(s4:((List zf)×Int)):Option (List zf):=
 (if s4.2 < (a1.length:Int) then((idx a1 s4.2).bind fun v7=>(if v7.Reads.length≤2147483648 then(if v7.Writes.length≤2147483648 then(if (s4.1++[v7]).length≤2147483648 then(kb5 ((s4.1++[v7]),(IntKind.wrap .i64 (s4.2+1)))) else none) else none) else none)) else(kx3 s4.1))
def yR(a1:(List zf)):Option (List zf):=
 (iter (Qz a1 Qv) FU (([]:List zf),0))
def Jr(a1:zj)(t3:(List zi)):Option zj:=
 (some (zj.mk t3 a1.Order))
def Jj(a1:zj)(kx4:((List zi)→Option zj))(kb6:((Int×(List zi))→Option zj))(s5:(Int×(List zi))):Option zj:=
 (if s5.1 < (a1.Recs.length:Int) then((idx a1.Recs s5.1).bind fun v8=>((yR v8.Shares).bind fun v10=>(if (s5.2++[(zi.mk v8.Tx v8.Client v8.Req v8.State v10)]).length≤2147483648 then(kb6 ((IntKind.wrap .i64 (s5.1+1)),(s5.2++[(zi.mk v8.Tx v8.Client v8.Req v8.State v10)]))) else none))) else(kx4 s5.2))
def yq(a1:zj):Option zj:=
 (if a1.Order.length≤2147483648 then(iter (Jj a1 (Jr a1)) FU (0,([]:List zi))) else none)
def JK(t4:Unit):Option Int:=
 (some 0)
def yY(a1:zj)(s6:Int)(kb7:(Int→Option Int))(t12:Bool):Option Int:=
 (if t12=true then((idx a1.Recs s6).bind fun v15=>(some v15.Tx)) else(kb7 (IntKind.wrap .i64 (s6+1))))
def Zz(a1:zj)(a2:Int)(a3:Int)(kx5:(Unit→Option Int))(kb7:(Int→Option Int))(s6:Int):Option Int:=
 (if s6 < (a1.Recs.length:Int) then((jv a1).bind fun v9=>(if v9=true then((idx a1.Recs s6).bind fun v17=>(if v17.Client=a2 then((idx a1.Recs s6).bind fun v20=>((yY a1 s6 kb7) (decide (v20.Req=a3)))) else((yY a1 s6 kb7) false))) else(kx5 ()))) else(kx5 ()))
def ZR(a1:zj)(a2:Int)(a3:Int):Option Int:=
 (iter (Zz a1 a2 a3 JK) FU 0)
def z8(a1:zj)(a2:Int)(a3:Int)(t4:Bool):Option (zj×Int×Int):=
 (if t4=true then(some ((zj.mk ([]:(List zi)) ([]:(List Int))),0,1)) else((yq a1).bind fun v7=>((ZR a1 a2 a3).bind fun v9=>(if 0 < v9 then(some (v7,v9,0)) else(if (a1.Recs.length:Int)=60 then(some (v7,0,4)) else(if (v7.Recs++[(zi.mk (IntKind.wrap .i64 ((a1.Recs.length:Int)+1)) a2 a3 1 ([]:List zf))]).length≤2147483648 then(some ((zj.mk (v7.Recs++[(zi.mk (IntKind.wrap .i64 ((a1.Recs.length:Int)+1)) a2 a3 1 ([]:List zf))]) v7.Order),(IntKind.wrap .i64 ((a1.Recs.length:Int)+1)),0)) else none))))))
def z5(a1:zj)(a2:Int)(a3:Int):Option (zj×Int×Int):=
 ((jv a1).bind fun v14=>(if v14=true then((ZU a2).bind fun v17=>(if v17=true then((jb a3 1 1000000000).bind fun v20=>((z8 a1 a2 a3) (!v20))) else((z8 a1 a2 a3) true))) else((z8 a1 a2 a3) true)))
def Zj(t5:((List qj)×Int×Int)):Option ((List qj)×(Int×Int)):=
 (some (t5.1,t5.2))
def j7(s7:((List qj)×Int×Int×Int×Int))(cb1:(List Int))(kb8:(((List qj)×Int×Int×Int×Int)→Option ((List qj)×(Int×Int))))(t14:(Int×Int×Int)):Option ((List qj)×(Int×Int)):=
 (if (s7.1++([(qj.mk s7.2.1 t14.2.2)])).length≤2147483648 then((zC cb1 (t14.1,t14.2.1) 8).bind fun v17=>(kb8 ((s7.1++([(qj.mk s7.2.1 t14.2.2)])),(IntKind.wrap .i64 ((IntKind.wrap .i64 (s7.2.1+1))+v17.1)),(IntKind.wrap .i64 (s7.2.2.1+1)),v17.2.1,v17.2.2))) else none)
def Qt(cb1:(List Int))(kx6:(((List qj)×Int×Int)→Option ((List qj)×(Int×Int))))(kb8:(((List qj)×Int×Int×Int×Int)→Option ((List qj)×(Int×Int))))(s7:((List qj)×Int×Int×Int×Int)):Option ((List qj)×(Int×Int)):=
 ((zC cb1 s7.2.2.2 4).bind fun v9=>(if s7.2.2.1 < v9.1 then((zC cb1 v9.2 99).bind fun v12=>((qw cb1 v12.2 5).bind fun v19=>(if v19.1=true then((j7 s7 cb1 kb8) (v19.2.1,v19.2.2,(-1))) else((j7 s7 cb1 kb8) (v19.2.1,v19.2.2,v12.1))))) else(kx6 (s7.1,v9.2.1,v9.2.2))))
def yr(cb1:(List Int))(a2:(Int×Int)):Option ((List qj)×(Int×Int)):=
 ((zC cb1 a2 20).bind fun v3=>(iter (Qt cb1 Zj) FU (([]:List qj),v3.1,0,v3.2.1,v3.2.2)))
def y4(cb1:(List Int))(a2:(Int×Int)):Option (qi×(Int×Int)):=
 ((zC cb1 a2 40).bind fun v3=>((zC cb1 v3.2 6).bind fun v5=>(some ((qi.mk v3.1 (IntKind.wrap .i64 ((IntKind.wrap .i64 (v3.1+1))+v5.1))),v5.2))))
def Zk(cb1:(List Int))(t3:((List zf)×Int×Int)):Option ((List zf)×(Int×Int)):=
 ((zC cb1 t3.2 30).bind fun v5=>(if v5.1=0 then((zC cb1 v5.2 6).bind fun v8=>(if (t3.1++[(zf.mk (IntKind.wrap .i64 (v8.1 - 1)) ([]:List qi) ([]:List qj) 0)]).length≤2147483648 then(some ((t3.1++[(zf.mk (IntKind.wrap .i64 (v8.1 - 1)) ([]:List qi) ([]:List qj) 0)]),v8.2)) else none)) else(if v5.1=1 then(if 0 < ((t3.1.length:Nat):Int) then((zC cb1 v5.2 4).bind fun v13=>((idx t3.1 0).bind fun v15=>(some (t3.1.set (Int.toNat 0) (zf.mk v15.Group v15.Reads v15.Writes v13.1),v13.2)))) else(some (t3.1,v5.2))) else(some (t3.1,v5.2)))))
def je(kb18:(((List zf)×Int×Int×Int)→Option ((List zf)×(Int×Int))))(s17:((List zf)×Int×Int×Int))(t20:((List zf)×Int×Int)):Option ((List zf)×(Int×Int)):=
 (kb18 (t20.1,(IntKind.wrap .i64 (s17.2.1+1)),t20.2.1,t20.2.2))
def yL(s17:((List zf)×Int×Int×Int))(v25:((List qj)×(Int×Int)))(kx21:(((List zf)×Int×Int)→Option ((List zf)×(Int×Int))))(t27:(Int×Int×(List qi))):Option ((List zf)×(Int×Int)):=
 (if (s17.1++[(zf.mk s17.2.1 t27.2.2 v25.1 0)]).length≤2147483648 then(kx21 ((s17.1++[(zf.mk s17.2.1 t27.2.2 v25.1 0)]),t27.1,t27.2.1)) else none)
def Qb(cb1:(List Int))(kx28:((Int×Int×(List qi))→Option ((List zf)×(Int×Int))))(kb31:((Int×Int×Int×(List qi))→Option ((List zf)×(Int×Int))))(s30:(Int×Int×Int×(List qi))):Option ((List zf)×(Int×Int)):=
 ((zC cb1 (s30.2.1,s30.2.2.1) 3).bind fun v32=>(if s30.1 < v32.1 then((y4 cb1 v32.2).bind fun v35=>(if (s30.2.2.2++([v35.1])).length≤2147483648 then(kb31 ((IntKind.wrap .i64 (s30.1+1)),v35.2.1,v35.2.2,(s30.2.2.2++([v35.1])))) else none)) else(kx28 (v32.2.1,v32.2.2,s30.2.2.2))))
def yN(cb1:(List Int))(kx4:(((List zf)×Int×Int)→Option ((List zf)×(Int×Int))))(kb18:(((List zf)×Int×Int×Int)→Option ((List zf)×(Int×Int))))(s17:((List zf)×Int×Int×Int)):Option ((List zf)×(Int×Int)):=
 (if s17.2.1 < 4 then((qw cb1 s17.2.2 2).bind fun v22=>(if v22.1=true then((je kb18 s17) (s17.1,v22.2.1,v22.2.2)) else((yr cb1 v22.2).bind fun v25=>(iter (Qb cb1 (yL s17 v25 (je kb18 s17))) FU (0,v25.2.1,v25.2.2,([]:List qi)))))) else(kx4 (s17.1,s17.2.2.1,s17.2.2.2)))
def ju(cb1:(List Int))(a2:(Int×Int)):Option ((List zf)×(Int×Int)):=
 (iter (yN cb1 (Zk cb1)) FU (([]:List zf),0,a2.1,a2.2))
def jt(t21:((List zi)×(List Int))):Option (zj×Int):=
 (some ((zj.mk t21.1 t21.2),0))
def qo(a1:zj)(a2:Int)(a3:(List zf))(t4:Bool):Option (zj×Int):=
 (if t4=true then(some ((zj.mk ([]:(List zi)) ([]:(List Int))),1)) else((yq a1).bind fun v7=>((jb a2 1 (a1.Recs.length:Int)).bind fun v9=>(if v9=true then((idx a1.Recs (IntKind.wrap .i64 (a2 - 1))).bind fun v12=>(if ¬v12.State=1 then(some (v7,3)) else((yR a3).bind fun v15=>((idx v7.Recs (IntKind.wrap .i64 (a2 - 1))).bind fun v17=>((idx (v7.Recs.set (Int.toNat (IntKind.wrap .i64 (a2 - 1))) (zi.mk v17.Tx v17.Client v17.Req v17.State v15)) (IntKind.wrap .i64 (a2 - 1))).bind fun v19=>(if (a3.length:Int)=0 then((idx ((v7.Recs.set (Int.toNat (IntKind.wrap .i64 (a2 - 1))) (zi.mk v17.Tx v17.Client v17.Req v17.State v15)).set (Int.toNat (IntKind.wrap .i64 (a2 - 1))) (zi.mk v19.Tx v19.Client v19.Req 2 v19.Shares)) (IntKind.wrap .i64 (a2 - 1))).bind fun v24=>(if (v7.Order++([a2])).length≤2147483648 then(jt (((v7.Recs.set (Int.toNat (IntKind.wrap .i64 (a2 - 1))) (zi.mk v17.Tx v17.Client v17.Req v17.State v15)).set (Int.toNat (IntKind.wrap .i64 (a2 - 1))) (zi.mk v19.Tx v19.Client v19.Req 2 v19.Shares)).set (Int.toNat (IntKind.wrap .i64 (a2 - 1))) (zi.mk v24.Tx v24.Client v24.Req 3 v24.Shares),(v7.Order++([a2])))) else none)) else(jt ((v7.Recs.set (Int.toNat (IntKind.wrap .i64 (a2 - 1))) (zi.mk v17.Tx v17.Client v17.Req v17.State v15)).set (Int.toNat (IntKind.wrap .i64 (a2 - 1))) (zi.mk v19.Tx v19.Client v19.Req 2 v19.Shares),v7.Order)))))))) else(some (v7,2))))))
def qc(a1:zj)(a2:Int)(a3:(List zf)):Option (zj×Int):=
 ((jv a1).bind fun v27=>(if v27=true then((Zr a3).bind fun v30=>(if v30=true then((jP a3 0).bind fun v33=>((qo a1 a2 a3) (decide (¬v33=(a3.length:Int))))) else((qo a1 a2 a3) true))) else((qo a1 a2 a3) true)))
def y3(a1:zj)(a2:Int)(t3:Bool):Option Int:=
 (if t3=true then(some 0) else((idx a1.Recs (IntKind.wrap .i64 (a2 - 1))).bind fun v6=>(some v6.State)))
def Zx(a1:zj)(a2:Int):Option Int:=
 ((jv a1).bind fun v8=>(if v8=true then((jb a2 1 (a1.Recs.length:Int)).bind fun v11=>((y3 a1 a2) (!v11))) else((y3 a1 a2) true)))
def Zd(t8:(List Int)):Option (List Int):=
 (some t8)
def yG(v6:zi)(kx9:((List Int)→Option (List Int)))(kb11:(((List Int)×Int)→Option (List Int)))(s10:((List Int)×Int)):Option (List Int):=
 (if s10.2 < (v6.Shares.length:Int) then((idx v6.Shares s10.2).bind fun v13=>(if v13.Vote=0 then((idx v6.Shares s10.2).bind fun v16=>(if (s10.1++([v16.Group])).length≤2147483648 then(kb11 ((s10.1++([v16.Group])),(IntKind.wrap .i64 (s10.2+1)))) else none)) else(kb11 (s10.1,(IntKind.wrap .i64 (s10.2+1)))))) else(kx9 s10.1))
def qy(a1:zj)(a2:Int):Option (List Int):=
 ((Zx a1 a2).bind fun v3=>(if ¬v3=2 then(some ([]:(List Int))) else((idx a1.Recs (IntKind.wrap .i64 (a2 - 1))).bind fun v6=>(iter (yG v6 Zd) FU (([]:List Int),0)))))
def jS(t24:((List zi)×(List Int))):Option (zj×Int):=
 (some ((zj.mk t24.1 t24.2),0))
def qO(v8:zj)(a4:Bool)(v13:zi)(t16:Int)(a2:Int)(t18:Bool):Option (zj×Int):=
 (if t18=true then(some (v8,3)) else(if a4=true then((idx v13.Shares t16).bind fun v22=>((jP (v13.Shares.set (Int.toNat t16) (zf.mk v22.Group v22.Reads v22.Writes 1)) 0).bind fun v26=>(if v26=0 then((idx (v8.Recs.set (Int.toNat (IntKind.wrap .i64 (a2 - 1))) (zi.mk v13.Tx v13.Client v13.Req v13.State (v13.Shares.set (Int.toNat t16) (zf.mk v22.Group v22.Reads v22.Writes 1)))) (IntKind.wrap .i64 (a2 - 1))).bind fun v29=>(if (v8.Order++([a2])).length≤2147483648 then(jS ((v8.Recs.set (Int.toNat (IntKind.wrap .i64 (a2 - 1))) (zi.mk v13.Tx v13.Client v13.Req v13.State (v13.Shares.set (Int.toNat t16) (zf.mk v22.Group v22.Reads v22.Writes 1)))).set (Int.toNat (IntKind.wrap .i64 (a2 - 1))) (zi.mk v29.Tx v29.Client v29.Req 3 v29.Shares),(v8.Order++([a2])))) else none)) else(jS (v8.Recs.set (Int.toNat (IntKind.wrap .i64 (a2 - 1))) (zi.mk v13.Tx v13.Client v13.Req v13.State (v13.Shares.set (Int.toNat t16) (zf.mk v22.Group v22.Reads v22.Writes 1))),v8.Order))))) else((idx v13.Shares t16).bind fun v32=>((idx (v8.Recs.set (Int.toNat (IntKind.wrap .i64 (a2 - 1))) (zi.mk v13.Tx v13.Client v13.Req v13.State (v13.Shares.set (Int.toNat t16) (zf.mk v32.Group v32.Reads v32.Writes 2)))) (IntKind.wrap .i64 (a2 - 1))).bind fun v34=>(some ((zj.mk ((v8.Recs.set (Int.toNat (IntKind.wrap .i64 (a2 - 1))) (zi.mk v13.Tx v13.Client v13.Req v13.State (v13.Shares.set (Int.toNat t16) (zf.mk v32.Group v32.Reads v32.Writes 2)))).set (Int.toNat (IntKind.wrap .i64 (a2 - 1))) (zi.mk v34.Tx v34.Client v34.Req 4 v34.Shares)) v8.Order),0))))))
def yf(v13:zi)(v8:zj)(a4:Bool)(a2:Int)(t16:Int):Option (zj×Int):=
 (if ¬v13.State=2 then((qO v8 a4 v13 t16 a2) true) else((qO v8 a4 v13 t16 a2) (decide (t16 < 0))))
def y8(kb38:((Int×Int)→Option (zj×Int)))(s37:(Int×Int))(t40:Bool):Option (zj×Int):=
 (if t40=true then(kb38 (s37.2,(IntKind.wrap .i64 (s37.2+1)))) else(kb38 (s37.1,(IntKind.wrap .i64 (s37.2+1)))))
def y2(v13:zi)(a3:Int)(kx17:(Int→Option (zj×Int)))(kb38:((Int×Int)→Option (zj×Int)))(s37:(Int×Int)):Option (zj×Int):=
 (if s37.2 < (v13.Shares.length:Int) then((idx v13.Shares s37.2).bind fun v43=>(if v43.Group=a3 then((idx v13.Shares s37.2).bind fun v46=>((y8 kb38 s37) (decide (v46.Vote=0)))) else((y8 kb38 s37) false))) else(kx17 s37.1))
def z9(a1:zj)(a2:Int)(a3:Int)(a4:Bool):Option (zj×Int):=
 ((jv a1).bind fun v5=>(if v5=true then((yq a1).bind fun v8=>((jb a2 1 (a1.Recs.length:Int)).bind fun v10=>(if v10=true then((idx v8.Recs (IntKind.wrap .i64 (a2 - 1))).bind fun v13=>(iter (y2 v13 a3 (yf v13 v8 a4 a2)) FU ((-1),0))) else(some (v8,2))))) else(some ((zj.mk ([]:(List zi)) ([]:(List Int))),1))))
def qK(a1:zj)(a2:Int):Option (zj×Int):=
 ((jv a1).bind fun v3=>(if v3=true then((yq a1).bind fun v6=>((jb a2 1 (a1.Recs.length:Int)).bind fun v8=>(if v8=true then((idx a1.Recs (IntKind.wrap .i64 (a2 - 1))).bind fun v11=>(if 2 < v11.State then(some (v6,3)) else((idx v6.Recs (IntKind.wrap .i64 (a2 - 1))).bind fun v14=>(some ((zj.mk (v6.Recs.set (Int.toNat (IntKind.wrap .i64 (a2 - 1))) (zi.mk v14.Tx v14.Client v14.Req 4 v14.Shares)) v6.Order),0))))) else(some (v6,2))))) else(some ((zj.mk ([]:(List zi)) ([]:(List Int))),1))))
def Zy(t9:(Int×Int×(List zi)×(List Int))):Option (zj×(Int×Int)):=
 (some ((zj.mk t9.2.2.1 t9.2.2.2),(t9.1,t9.2.1)))
def Zi(cb1:(List Int))(kx10:((Int×Int×(List zi)×(List Int))→Option (zj×(Int×Int))))(kb12:((Int×Int×Int×(List zi)×(List Int))→Option (zj×(Int×Int))))(s11:(Int×Int×Int×(List zi)×(List Int))):Option (zj×(Int×Int)):=
 (if s11.1 < 90 then((zC cb1 (s11.2.1,s11.2.2.1) (IntKind.wrap .i64 (((s11.2.2.2.1.length:Nat):Int)+1))).bind fun v14=>((zC cb1 v14.2 6).bind fun v16=>(if v16.1=0 then((zC cb1 v16.2 4).bind fun v19=>((zC cb1 v19.2 20).bind fun v21=>((z5 (zj.mk s11.2.2.2.1 s11.2.2.2.2) v19.1 (IntKind.wrap .i64 (1+v21.1))).bind fun v23=>(if ¬v23.2.2=1 then(kb12 ((IntKind.wrap .i64 (s11.1+1)),v21.2.1,v21.2.2,v23.1.Recs,v23.1.Order)) else(kb12 ((IntKind.wrap .i64 (s11.1+1)),v21.2.1,v21.2.2,s11.2.2.2.1,s11.2.2.2.2)))))) else(if v16.1=1 then((zC cb1 v16.2 4).bind fun v27=>((zC cb1 v27.2 20).bind fun v29=>((z5 (zj.mk s11.2.2.2.1 s11.2.2.2.2) v27.1 (IntKind.wrap .i64 (1+v29.1))).bind fun v31=>(if ¬v31.2.2=1 then(kb12 ((IntKind.wrap .i64 (s11.1+1)),v29.2.1,v29.2.2,v31.1.Recs,v31.1.Order)) else(kb12 ((IntKind.wrap .i64 (s11.1+1)),v29.2.1,v29.2.2,s11.2.2.2.1,s11.2.2.2.2)))))) else(if v16.1=2 then((ju cb1 v16.2).bind fun v35=>((qc (zj.mk s11.2.2.2.1 s11.2.2.2.2) (IntKind.wrap .i64 (1+v14.1)) v35.1).bind fun v37=>(if ¬v37.2=1 then(kb12 ((IntKind.wrap .i64 (s11.1+1)),v35.2.1,v35.2.2,v37.1.Recs,v37.1.Order)) else(kb12 ((IntKind.wrap .i64 (s11.1+1)),v35.2.1,v35.2.2,s11.2.2.2.1,s11.2.2.2.2))))) else(if v16.1=3 then((qy (zj.mk s11.2.2.2.1 s11.2.2.2.2) (IntKind.wrap .i64 (1+v14.1))).bind fun v41=>(if 0 < ((v41.length:Nat):Int) then((idx v41 0).bind fun v44=>((qw cb1 v16.2 5).bind fun v46=>((z9 (zj.mk s11.2.2.2.1 s11.2.2.2.2) (IntKind.wrap .i64 (1+v14.1)) v44 (!v46.1)).bind fun v48=>(if ¬v48.2=1 then(kb12 ((IntKind.wrap .i64 (s11.1+1)),v46.2.1,v46.2.2,v48.1.Recs,v48.1.Order)) else(kb12 ((IntKind.wrap .i64 (s11.1+1)),v46.2.1,v46.2.2,s11.2.2.2.1,s11.2.2.2.2)))))) else(if ¬(1:Int)=1 then(kb12 ((IntKind.wrap .i64 (s11.1+1)),v16.2.1,v16.2.2,s11.2.2.2.1,s11.2.2.2.2)) else(kb12 ((IntKind.wrap .i64 (s11.1+1)),v16.2.1,v16.2.2,s11.2.2.2.1,s11.2.2.2.2))))) else(if v16.1=4 then((qy (zj.mk s11.2.2.2.1 s11.2.2.2.2) (IntKind.wrap .i64 (1+v14.1))).bind fun v53=>(if 0 < ((v53.length:Nat):Int) then((idx v53 0).bind fun v56=>((qw cb1 v16.2 5).bind fun v58=>((z9 (zj.mk s11.2.2.2.1 s11.2.2.2.2) (IntKind.wrap .i64 (1+v14.1)) v56 (!v58.1)).bind fun v60=>(if ¬v60.2=1 then(kb12 ((IntKind.wrap .i64 (s11.1+1)),v58.2.1,v58.2.2,v60.1.Recs,v60.1.Order)) else(kb12 ((IntKind.wrap .i64 (s11.1+1)),v58.2.1,v58.2.2,s11.2.2.2.1,s11.2.2.2.2)))))) else(if ¬(1:Int)=1 then(kb12 ((IntKind.wrap .i64 (s11.1+1)),v16.2.1,v16.2.2,s11.2.2.2.1,s11.2.2.2.2)) else(kb12 ((IntKind.wrap .i64 (s11.1+1)),v16.2.1,v16.2.2,s11.2.2.2.1,s11.2.2.2.2))))) else((qw cb1 v16.2 3).bind fun v64=>(if v64.1=true then((qK (zj.mk s11.2.2.2.1 s11.2.2.2.2) (IntKind.wrap .i64 (1+v14.1))).bind fun v67=>(if ¬v67.2=1 then(kb12 ((IntKind.wrap .i64 (s11.1+1)),v64.2.1,v64.2.2,v67.1.Recs,v67.1.Order)) else(kb12 ((IntKind.wrap .i64 (s11.1+1)),v64.2.1,v64.2.2,s11.2.2.2.1,s11.2.2.2.2)))) else(if ¬(1:Int)=1 then(kb12 ((IntKind.wrap .i64 (s11.1+1)),v64.2.1,v64.2.2,s11.2.2.2.1,s11.2.2.2.2)) else(kb12 ((IntKind.wrap .i64 (s11.1+1)),v64.2.1,v64.2.2,s11.2.2.2.1,s11.2.2.2.2)))))))))))) else(kx10 (s11.2.1,s11.2.2.1,s11.2.2.2.1,s11.2.2.2.2)))
def Zl(t71:(Int×Int×(List zi)×(List Int))):Option (zj×(Int×Int)):=
 (some ((zj.mk t71.2.2.1 t71.2.2.2),(t71.1,t71.2.1)))
def Zh(v4:(Int×(Int×Int)))(cb1:(List Int))(kx72:((Int×Int×(List zi)×(List Int))→Option (zj×(Int×Int))))(kb74:((Int×Int×Int×(List zi)×(List Int))→Option (zj×(Int×Int))))(s73:(Int×Int×Int×(List zi)×(List Int))):Option (zj×(Int×Int)):=
 (if s73.1 < v4.1 then((zC cb1 (s73.2.1,s73.2.2.1) (IntKind.wrap .i64 (((s73.2.2.2.1.length:Nat):Int)+1))).bind fun v76=>((zC cb1 v76.2 6).bind fun v78=>(if v78.1=0 then((zC cb1 v78.2 4).bind fun v81=>((zC cb1 v81.2 20).bind fun v83=>((z5 (zj.mk s73.2.2.2.1 s73.2.2.2.2) v81.1 (IntKind.wrap .i64 (1+v83.1))).bind fun v85=>(if ¬v85.2.2=1 then(kb74 ((IntKind.wrap .i64 (s73.1+1)),v83.2.1,v83.2.2,v85.1.Recs,v85.1.Order)) else(kb74 ((IntKind.wrap .i64 (s73.1+1)),v83.2.1,v83.2.2,s73.2.2.2.1,s73.2.2.2.2)))))) else(if v78.1=1 then((zC cb1 v78.2 4).bind fun v89=>((zC cb1 v89.2 20).bind fun v91=>((z5 (zj.mk s73.2.2.2.1 s73.2.2.2.2) v89.1 (IntKind.wrap .i64 (1+v91.1))).bind fun v93=>(if ¬v93.2.2=1 then(kb74 ((IntKind.wrap .i64 (s73.1+1)),v91.2.1,v91.2.2,v93.1.Recs,v93.1.Order)) else(kb74 ((IntKind.wrap .i64 (s73.1+1)),v91.2.1,v91.2.2,s73.2.2.2.1,s73.2.2.2.2)))))) else(if v78.1=2 then((ju cb1 v78.2).bind fun v97=>((qc (zj.mk s73.2.2.2.1 s73.2.2.2.2) (IntKind.wrap .i64 (1+v76.1)) v97.1).bind fun v99=>(if ¬v99.2=1 then(kb74 ((IntKind.wrap .i64 (s73.1+1)),v97.2.1,v97.2.2,v99.1.Recs,v99.1.Order)) else(kb74 ((IntKind.wrap .i64 (s73.1+1)),v97.2.1,v97.2.2,s73.2.2.2.1,s73.2.2.2.2))))) else(if v78.1=3 then((qy (zj.mk s73.2.2.2.1 s73.2.2.2.2) (IntKind.wrap .i64 (1+v76.1))).bind fun v103=>(if 0 < ((v103.length:Nat):Int) then((idx v103 0).bind fun v106=>((qw cb1 v78.2 5).bind fun v108=>((z9 (zj.mk s73.2.2.2.1 s73.2.2.2.2) (IntKind.wrap .i64 (1+v76.1)) v106 (!v108.1)).bind fun v110=>(if ¬v110.2=1 then(kb74 ((IntKind.wrap .i64 (s73.1+1)),v108.2.1,v108.2.2,v110.1.Recs,v110.1.Order)) else(kb74 ((IntKind.wrap .i64 (s73.1+1)),v108.2.1,v108.2.2,s73.2.2.2.1,s73.2.2.2.2)))))) else(if ¬(1:Int)=1 then(kb74 ((IntKind.wrap .i64 (s73.1+1)),v78.2.1,v78.2.2,s73.2.2.2.1,s73.2.2.2.2)) else(kb74 ((IntKind.wrap .i64 (s73.1+1)),v78.2.1,v78.2.2,s73.2.2.2.1,s73.2.2.2.2))))) else(if v78.1=4 then((qy (zj.mk s73.2.2.2.1 s73.2.2.2.2) (IntKind.wrap .i64 (1+v76.1))).bind fun v115=>(if 0 < ((v115.length:Nat):Int) then((idx v115 0).bind fun v118=>((qw cb1 v78.2 5).bind fun v120=>((z9 (zj.mk s73.2.2.2.1 s73.2.2.2.2) (IntKind.wrap .i64 (1+v76.1)) v118 (!v120.1)).bind fun v122=>(if ¬v122.2=1 then(kb74 ((IntKind.wrap .i64 (s73.1+1)),v120.2.1,v120.2.2,v122.1.Recs,v122.1.Order)) else(kb74 ((IntKind.wrap .i64 (s73.1+1)),v120.2.1,v120.2.2,s73.2.2.2.1,s73.2.2.2.2)))))) else(if ¬(1:Int)=1 then(kb74 ((IntKind.wrap .i64 (s73.1+1)),v78.2.1,v78.2.2,s73.2.2.2.1,s73.2.2.2.2)) else(kb74 ((IntKind.wrap .i64 (s73.1+1)),v78.2.1,v78.2.2,s73.2.2.2.1,s73.2.2.2.2))))) else((qw cb1 v78.2 3).bind fun v126=>(if v126.1=true then((qK (zj.mk s73.2.2.2.1 s73.2.2.2.2) (IntKind.wrap .i64 (1+v76.1))).bind fun v129=>(if ¬v129.2=1 then(kb74 ((IntKind.wrap .i64 (s73.1+1)),v126.2.1,v126.2.2,v129.1.Recs,v129.1.Order)) else(kb74 ((IntKind.wrap .i64 (s73.1+1)),v126.2.1,v126.2.2,s73.2.2.2.1,s73.2.2.2.2)))) else(if ¬(1:Int)=1 then(kb74 ((IntKind.wrap .i64 (s73.1+1)),v126.2.1,v126.2.2,s73.2.2.2.1,s73.2.2.2.2)) else(kb74 ((IntKind.wrap .i64 (s73.1+1)),v126.2.1,v126.2.2,s73.2.2.2.1,s73.2.2.2.2)))))))))))) else(kx72 (s73.2.1,s73.2.2.1,s73.2.2.2.1,s73.2.2.2.2)))
def yK(cb1:(List Int))(a2:(Int×Int))(a3:Int):Option (zj×(Int×Int)):=
 ((zC cb1 a2 (IntKind.wrap .i64 (a3+1))).bind fun v4=>((qw cb1 v4.2 20).bind fun v6=>(if v6.1=true then(iter (Zi cb1 Zy) FU (0,v6.2.1,v6.2.2,([]:List zi),([]:List Int))) else(iter (Zh v4 cb1 Zl) FU (0,v6.2.1,v6.2.2,([]:List zi),([]:List Int))))))
def ZC(cb1:(List Int))(a2:(Int×Int))(a3:Int):Option (zj×(Int×Int)):=
 ((yK cb1 a2 a3).bind fun v4=>((zC cb1 v4.2 30).bind fun v6=>(if v6.1=0 then((zC cb1 v6.2 5).bind fun v9=>(if (v4.1.Order++([v9.1])).length≤2147483648 then(some ((zj.mk v4.1.Recs (v4.1.Order++([v9.1]))),v9.2)) else none)) else(if v6.1=1 then(if 0 < ((v4.1.Recs.length:Nat):Int) then((zC cb1 v6.2 ((v4.1.Recs.length:Nat):Int)).bind fun v14=>((zC cb1 v14.2 6).bind fun v16=>((idx v4.1.Recs v14.1).bind fun v18=>(some ((zj.mk (v4.1.Recs.set (Int.toNat v14.1) (zi.mk v18.Tx v18.Client v18.Req v16.1 v18.Shares)) v4.1.Order),v16.2))))) else(some (v4.1,v6.2))) else(if v6.1=2 then((zC cb1 v6.2 9).bind fun v21=>(if (v4.1.Recs++[(zi.mk v21.1 0 1 1 ([]:List zf))]).length≤2147483648 then(some ((zj.mk (v4.1.Recs++[(zi.mk v21.1 0 1 1 ([]:List zf))]) v4.1.Order),v21.2)) else none)) else(some (v4.1,v6.2)))))))
def yj(cb1:(List Int)):Option zj:=
 ((JT cb1).bind fun v2=>((Jb cb1 30).bind fun v4=>((ZC cb1 v2 v4).bind fun v6=>(some v6.1))))
def jX(a1:Int)(a2:Int)(a3:Int):Option Bool:=
 (if a2≤a1 then(some (decide (a1≤a3))) else(some false))
def Z5(a1:Int):Option Bool:=
 ((jX a1 0 1000000000).bind fun v2=>(some v2))
def QS(a1:Int):Option Bool:=
 ((jX a1 1 1000000000).bind fun v2=>(some v2))
def QF(a1:Int):Option Bool:=
 ((jX a1 0 3).bind fun v2=>(some v2))
def QG(a1:qi):Option Bool:=
 (if 0≤a1.Lo then(if a1.Lo < a1.Hi then(some (decide (a1.Hi≤1000))) else(some false)) else(some false))
def Z6(a1:qi):Option Bool:=
 ((QG a1).bind fun v2=>(some (!v2)))
def jI(t2:Unit):Option Int:=
 (some (-1))
def qS(a1:(List qi))(kx3:(Unit→Option Int))(kb5:(Int→Option Int))(s4:Int):Option Int:=
 (if s4 < (a1.length:Int) then((idx a1 s4).bind fun v7=>((Z6 v7).bind fun v9=>(if v9=true then(some s4) else(kb5 (IntKind.wrap .i64 (s4+1)))))) else(kx3 ()))
def qZ(a1:(List qi)):Option Int:=
 (iter (qS a1 jI) FU 0)
def qg(a1:(List qi)):Option Bool:=
 ((qZ a1).bind fun v2=>(some (decide (0≤v2))))
def ZT(a1:(List qi)):Option Bool:=
 (if (a1.length:Int)≤16 then((qg a1).bind fun v3=>(some (!v3))) else(some false))
def JO(a1:Int):Option Bool:=
 ((jX a1 0 999).bind fun v2=>(some v2))
def Ql(a1:Int):Option Bool:=
 ((jX a1 (-1) 1000000000).bind fun v2=>(some v2))
def QT(a1:(List qj))(t2:Unit):Option Bool:=
 (some (decide ((a1.length:Int)≤60)))
def yg(kb5:(Int→Option Bool))(s4:Int)(t9:Bool):Option Bool:=
 (if t9=true then(some false) else(kb5 (IntKind.wrap .i64 (s4+1))))
def QM(a1:(List qj))(kx3:(Unit→Option Bool))(kb5:(Int→Option Bool))(s4:Int):Option Bool:=
 (if s4 < (a1.length:Int) then((idx a1 s4).bind fun v7=>((JO v7.Key).bind fun v12=>(if v12=true then((Ql v7.Value).bind fun v15=>(if v15=true then(if 0 < s4 then((idx a1 (IntKind.wrap .i64 (s4 - 1))).bind fun v19=>((yg kb5 s4) (decide (v7.Key≤v19.Key)))) else((yg kb5 s4) false)) else((yg kb5 s4) true))) else((yg kb5 s4) true)))) else(kx3 ()))
def Zp(a1:(List qj)):Option Bool:=
 (iter (QM a1 (QT a1)) FU 0)
def QP(a1:(List zf))(t2:Unit):Option Bool:=
 (some (decide ((a1.length:Int)≤4)))
def qV(kb5:(Int→Option Bool))(s4:Int)(t9:Bool):Option Bool:=
 (if t9=true then(some false) else(kb5 (IntKind.wrap .i64 (s4+1))))
def QW(a1:(List zf))(kx3:(Unit→Option Bool))(kb5:(Int→Option Bool))(s4:Int):Option Bool:=
 (if s4 < (a1.length:Int) then((idx a1 s4).bind fun v7=>((QF v7.Group).bind fun v12=>(if v12=true then(if 0 < s4 then((idx a1 (IntKind.wrap .i64 (s4 - 1))).bind fun v16=>(if v7.Group≤v16.Group then((qV kb5 s4) true) else((ZT v7.Reads).bind fun v19=>(if v19=true then((Zp v7.Writes).bind fun v22=>(if v22=true then((jX v7.Vote 0 2).bind fun v25=>((qV kb5 s4) (!v25))) else((qV kb5 s4) true))) else((qV kb5 s4) true))))) else((ZT v7.Reads).bind fun v27=>(if v27=true then((Zp v7.Writes).bind fun v30=>(if v30=true then((jX v7.Vote 0 2).bind fun v33=>((qV kb5 s4) (!v33))) else((qV kb5 s4) true))) else((qV kb5 s4) true)))) else((qV kb5 s4) true)))) else(kx3 ()))
def Zt(a1:(List zf)):Option Bool:=
 (iter (QW a1 (QP a1)) FU 0)
def JI(a1:zf)(a2:Int):Option Bool:=
 (some (decide (a1.Vote=a2)))
def jT(t3:Unit):Option Int:=
 (some (-1))
def jc(a1:(List zf))(a2:Int)(kx4:(Unit→Option Int))(kb6:(Int→Option Int))(s5:Int):Option Int:=
 (if s5 < (a1.length:Int) then((idx a1 s5).bind fun v8=>((JI v8 a2).bind fun v10=>(if v10=true then(some s5) else(kb6 (IntKind.wrap .i64 (s5+1)))))) else(kx4 ()))
def jk(a1:(List zf))(a2:Int):Option Int:=
 (iter (jc a1 a2 jT) FU 0)
def qT(a1:(List zf))(a2:Int):Option Bool:=
 ((jk a1 a2).bind fun v3=>(some (decide (0≤v3))))
def j6(a1:(List zf))(a2:Int):Option Bool:=
 ((qT a1 a2).bind fun v3=>(some v3))
def Qo(a1:zi)(t2:Bool):Option Bool:=
 (if t2=true then(some false) else(if a1.State=1 then(some (decide ((a1.Shares.length:Int)=0))) else(if a1.State=2 then((j6 a1.Shares 0).bind fun v7=>(if v7=true then((j6 a1.Shares 2).bind fun v10=>(some (!v10))) else(some false))) else(if a1.State=3 then((j6 a1.Shares 0).bind fun v13=>(if v13=true then(some false) else((j6 a1.Shares 2).bind fun v16=>(some (!v16))))) else(some (decide (a1.State=4)))))))
def JS(a1:zi):Option Bool:=
 ((Z5 a1.Client).bind fun v18=>(if v18=true then((QS a1.Req).bind fun v21=>(if v21=true then((Zt a1.Shares).bind fun v24=>((Qo a1) (!v24))) else((Qo a1) true))) else((Qo a1) true)))
def QU(a1:zi)(a2:zi):Option Bool:=
 (if a1.Client=a2.Client then(some (decide (a1.Req=a2.Req))) else(some false))
def jR(t3:Unit):Option Int:=
 (some (-1))
def jd(a1:(List zi))(a2:zi)(kx4:(Unit→Option Int))(kb6:(Int→Option Int))(s5:Int):Option Int:=
 (if s5 < (a1.length:Int) then((idx a1 s5).bind fun v8=>((QU v8 a2).bind fun v10=>(if v10=true then(some s5) else(kb6 (IntKind.wrap .i64 (s5+1)))))) else(kx4 ()))
def jl(a1:(List zi))(a2:zi):Option Int:=
 (iter (jd a1 a2 jR) FU 0)
def qm(a1:(List zi))(a2:zi):Option Bool:=
 ((jl a1 a2).bind fun v3=>(some (decide (0≤v3))))
def Q5(t3:Unit):Option Int:=
 (some (-1))
def ZP(a1:(List Int))(a2:Int)(kx4:(Unit→Option Int))(kb6:(Int→Option Int))(s5:Int):Option Int:=
 (if s5 < (a1.length:Int) then((idx a1 s5).bind fun v8=>(if a2=v8 then(some s5) else(kb6 (IntKind.wrap .i64 (s5+1))))) else(kx4 ()))
def Zc(a1:(List Int))(a2:Int):Option Int:=
 (iter (ZP a1 a2 Q5) FU 0)
def yb(a1:(List Int))(a2:Int):Option Bool:=
 ((Zc a1 a2).bind fun v3=>(some (decide (0≤v3))))
def Jm(t3:Int)(a1:zj)(t5:Unit):Option Bool:=
 (some (decide (t3=(a1.Order.length:Int))))
def yV(kb8:(Int→Option Bool))(s7:Int)(t12:Bool):Option Bool:=
 (if t12=true then(some false) else(kb8 (IntKind.wrap .i64 (s7+1))))
def Jk(a1:zj)(kx6:(Unit→Option Bool))(kb8:(Int→Option Bool))(s7:Int):Option Bool:=
 (if s7 < (a1.Order.length:Int) then((idx a1.Order s7).bind fun v10=>((jX v10 1 (a1.Recs.length:Int)).bind fun v15=>(if v15=true then((idx a1.Recs (IntKind.wrap .i64 (v10 - 1))).bind fun v18=>(if ¬v18.State=3 then((yV kb8 s7) true) else((cut a1.Order 0 s7).bind fun v21=>((yb v21 v10).bind fun v23=>((yV kb8 s7) v23))))) else((yV kb8 s7) true)))) else(kx6 ()))
def Jp(a1:zj)(t3:Int):Option Bool:=
 (iter (Jk a1 (Jm t3 a1)) FU 0)
def yW(v28:zi)(kb26:((Int×Int)→Option Bool))(s25:(Int×Int))(t30:Bool):Option Bool:=
 (if t30=true then(some false) else(if v28.State=3 then(kb26 ((IntKind.wrap .i64 (s25.1+1)),(IntKind.wrap .i64 (s25.2+1)))) else(kb26 (s25.1,(IntKind.wrap .i64 (s25.2+1))))))
def QN(a1:zj)(kx4:(Int→Option Bool))(kb26:((Int×Int)→Option Bool))(s25:(Int×Int)):Option Bool:=
 (if s25.2 < (a1.Recs.length:Int) then((idx a1.Recs s25.2).bind fun v28=>(if ¬v28.Tx=(IntKind.wrap .i64 (s25.2+1)) then((yW v28 kb26 s25) true) else((JS v28).bind fun v35=>(if v35=true then((cut a1.Recs 0 s25.2).bind fun v38=>((qm v38 v28).bind fun v40=>((yW v28 kb26 s25) v40))) else((yW v28 kb26 s25) true))))) else(kx4 s25.1))
def jh(a1:zj):Option Bool:=
 (if 60 < (a1.Recs.length:Int) then(some false) else(iter (QN a1 (Jp a1)) FU (0,0)))
def j5(a1:zj)(a2:Int):Option Bool:=
 ((jX a2 1 (a1.Recs.length:Int)).bind fun v3=>(some v3))
def yk(a1:zj)(a2:Int)(t3:Bool):Option Int:=
 (if t3=true then(some 0) else((idx a1.Recs (IntKind.wrap .i64 (a2 - 1))).bind fun v6=>(some v6.State)))
def jp(a1:zj)(a2:Int):Option Int:=
 ((jh a1).bind fun v8=>(if v8=true then((j5 a1 a2).bind fun v11=>((yk a1 a2) (!v11))) else((yk a1 a2) true)))
def Jy(a1:(List Int))(a2:Int):Option Int:=
 (if a2 < (a1.length:Int) then((idx a1 a2).bind fun v4=>(some (IntKind.wrap .i64 v4))) else(some (Int.tmod (IntKind.wrap .i64 ((IntKind.wrap .i64 (a2 * 7))+(a1.length:Int))) 256)))
def j9(a1:(List Int))(t2:Unit):Option (List Int):=
 (if a1.length≤2147483648 then(some a1) else none)
def yX(a1:(List Int)):Option (List Int):=
 (if a1.length=0 then((j9 a1) ()) else((j9 a1) ()))
def jM(a1:(List qi))(t2:Unit):Option (List qi):=
 (if a1.length≤2147483648 then(some a1) else none)
def yu(a1:(List qi)):Option (List qi):=
 (if a1.length=0 then((jM a1) ()) else((jM a1) ()))
def jL(a1:(List qj))(t2:Unit):Option (List qj):=
 (if a1.length≤2147483648 then(some a1) else none)
def yp(a1:(List qj)):Option (List qj):=
 (if a1.length=0 then((jL a1) ()) else((jL a1) ()))
def Qd(t2:(List zf)):Option (List zf):=
 (some t2)
def Qh(a1:(List zf))(kx3:((List zf)→Option (List zf)))(kb5:(((List zf)×Int)→Option (List zf)))(s4:((List zf)×Int)):Option (List zf):=
 (if s4.2 < (a1.length:Int) then((idx a1 s4.2).bind fun v7=>((yu v7.Reads).bind fun v9=>((yp v7.Writes).bind fun v11=>(if (s4.1++[(zf.mk v7.Group v9 v11 v7.Vote)]).length≤2147483648 then(kb5 ((s4.1++[(zf.mk v7.Group v9 v11 v7.Vote)]),(IntKind.wrap .i64 (s4.2+1)))) else none)))) else(kx3 s4.1))
def yD(a1:(List zf)):Option (List zf):=
 (iter (Qh a1 Qd) FU (([]:List zf),0))
def Qy(v2:(List Int))(t4:(List zi)):Option zj:=
 (some (zj.mk t4 v2))
def Qw(a1:zj)(kx5:((List zi)→Option zj))(kb7:((Int×(List zi))→Option zj))(s6:(Int×(List zi))):Option zj:=
 (if s6.1 < (a1.Recs.length:Int) then((idx a1.Recs s6.1).bind fun v9=>((yD v9.Shares).bind fun v11=>(if (s6.2++[(zi.mk v9.Tx v9.Client v9.Req v9.State v11)]).length≤2147483648 then(kb7 ((IntKind.wrap .i64 (s6.1+1)),(s6.2++[(zi.mk v9.Tx v9.Client v9.Req v9.State v11)]))) else none))) else(kx5 s6.2))
def jW(a1:zj):Option zj:=
 ((yX a1.Order).bind fun v2=>(iter (Qw a1 (Qy v2)) FU (0,([]:List zi))))
def Qf(a1:zi)(a2:Int)(a3:Int):Option Bool:=
 (if a1.Client=a2 then(some (decide (a1.Req=a3))) else(some false))
def jE(t4:Unit):Option Int:=
 (some (-1))
def qR(a1:(List zi))(a2:Int)(a3:Int)(kx5:(Unit→Option Int))(kb7:(Int→Option Int))(s6:Int):Option Int:=
 (if s6 < (a1.length:Int) then((idx a1 s6).bind fun v9=>((Qf v9 a2 a3).bind fun v11=>(if v11=true then(some s6) else(kb7 (IntKind.wrap .i64 (s6+1)))))) else(kx5 ()))
def qx(a1:(List zi))(a2:Int)(a3:Int):Option Int:=
 (iter (qR a1 a2 a3 jE) FU 0)
def Z2(a1:zj)(a2:Int)(a3:Int):Option Int:=
 ((jh a1).bind fun v4=>(if v4=true then((qx a1.Recs a2 a3).bind fun v7=>(some (IntKind.wrap .i64 (1+v7)))) else(some 0)))
def qA(a1:zj)(a2:Int)(a3:Int)(t4:Bool):Option (zj×Int×Int):=
 (if t4=true then(some ((zj.mk ([]:(List zi)) ([]:(List Int))),0,1)) else((jW a1).bind fun v7=>((Z2 a1 a2 a3).bind fun v9=>(if 0 < v9 then(some (v7,v9,0)) else(if (a1.Recs.length:Int)=60 then(some (v7,0,4)) else(if (v7.Recs++[(zi.mk (IntKind.wrap .i64 ((a1.Recs.length:Int)+1)) a2 a3 1 ([]:List zf))]).length≤2147483648 then(some ((zj.mk (v7.Recs++[(zi.mk (IntKind.wrap .i64 ((a1.Recs.length:Int)+1)) a2 a3 1 ([]:List zf))]) v7.Order),(IntKind.wrap .i64 ((a1.Recs.length:Int)+1)),0)) else none))))))
def j0(a1:zj)(a2:Int)(a3:Int):Option (zj×Int×Int):=
 ((jh a1).bind fun v14=>(if v14=true then((Z5 a2).bind fun v17=>(if v17=true then((QS a3).bind fun v20=>((qA a1 a2 a3) (!v20))) else((qA a1 a2 a3) true))) else((qA a1 a2 a3) true)))
def yw(t19:((List zi)×(List Int))):Option (zj×Int):=
 (some ((zj.mk t19.1 t19.2),0))
def qU(a1:zj)(a2:Int)(a3:(List zf))(t4:Bool):Option (zj×Int):=
 (if t4=true then(some ((zj.mk ([]:(List zi)) ([]:(List Int))),1)) else((jW a1).bind fun v7=>((j5 a1 a2).bind fun v9=>(if v9=true then((idx a1.Recs (IntKind.wrap .i64 (a2 - 1))).bind fun v12=>(if ¬v12.State=1 then(some (v7,3)) else((idx v7.Recs (IntKind.wrap .i64 (a2 - 1))).bind fun v15=>((yD a3).bind fun v17=>(if (a3.length:Int)=0 then(if (v7.Order++([a2])).length≤2147483648 then(yw (((v7.Recs.set (Int.toNat (IntKind.wrap .i64 (a2 - 1))) (zi.mk v15.Tx v15.Client v15.Req v15.State v17)).set (Int.toNat (IntKind.wrap .i64 (a2 - 1))) (zi.mk ((zi.mk v15.Tx v15.Client v15.Req v15.State v17).Tx) ((zi.mk v15.Tx v15.Client v15.Req v15.State v17).Client) ((zi.mk v15.Tx v15.Client v15.Req v15.State v17).Req) 2 ((zi.mk v15.Tx v15.Client v15.Req v15.State v17).Shares))).set (Int.toNat (IntKind.wrap .i64 (a2 - 1))) (zi.mk ((zi.mk ((zi.mk v15.Tx v15.Client v15.Req v15.State v17).Tx) ((zi.mk v15.Tx v15.Client v15.Req v15.State v17).Client) ((zi.mk v15.Tx v15.Client v15.Req v15.State v17).Req) 2 ((zi.mk v15.Tx v15.Client v15.Req v15.State v17).Shares)).Tx) ((zi.mk ((zi.mk v15.Tx v15.Client v15.Req v15.State v17).Tx) ((zi.mk v15.Tx v15.Client v15.Req v15.State v17).Client) ((zi.mk v15.Tx v15.Client v15.Req v15.State v17).Req) 2 ((zi.mk v15.Tx v15.Client v15.Req v15.State v17).Shares)).Client) ((zi.mk ((zi.mk v15.Tx v15.Client v15.Req v15.State v17).Tx) ((zi.mk v15.Tx v15.Client v15.Req v15.State v17).Client) ((zi.mk v15.Tx v15.Client v15.Req v15.State v17).Req) 2 ((zi.mk v15.Tx v15.Client v15.Req v15.State v17).Shares)).Req) 3 ((zi.mk ((zi.mk v15.Tx v15.Client v15.Req v15.State v17).Tx) ((zi.mk v15.Tx v15.Client v15.Req v15.State v17).Client) ((zi.mk v15.Tx v15.Client v15.Req v15.State v17).Req) 2 ((zi.mk v15.Tx v15.Client v15.Req v15.State v17).Shares)).Shares)),(v7.Order++([a2])))) else none) else(yw ((v7.Recs.set (Int.toNat (IntKind.wrap .i64 (a2 - 1))) (zi.mk v15.Tx v15.Client v15.Req v15.State v17)).set (Int.toNat (IntKind.wrap .i64 (a2 - 1))) (zi.mk ((zi.mk v15.Tx v15.Client v15.Req v15.State v17).Tx) ((zi.mk v15.Tx v15.Client v15.Req v15.State v17).Client) ((zi.mk v15.Tx v15.Client v15.Req v15.State v17).Req) 2 ((zi.mk v15.Tx v15.Client v15.Req v15.State v17).Shares)),v7.Order))))))) else(some (v7,2))))))
def yd(a1:zj)(a2:Int)(a3:(List zf)):Option (zj×Int):=
 ((jh a1).bind fun v23=>(if v23=true then((Zt a3).bind fun v26=>(if v26=true then((j6 a3 1).bind fun v29=>(if v29=true then((qU a1 a2 a3) true) else((j6 a3 2).bind fun v32=>((qU a1 a2 a3) v32)))) else((qU a1 a2 a3) true))) else((qU a1 a2 a3) true)))
def Qg(a1:zf)(a2:Int):Option Bool:=
 (if a1.Group=a2 then(some (decide (a1.Vote=0))) else(some false))
def jx(t3:Unit):Option Int:=
 (some (-1))
def qN(a1:(List zf))(a2:Int)(kx4:(Unit→Option Int))(kb6:(Int→Option Int))(s5:Int):Option Int:=
 (if s5 < (a1.length:Int) then((idx a1 s5).bind fun v8=>((Qg v8 a2).bind fun v10=>(if v10=true then(some s5) else(kb6 (IntKind.wrap .i64 (s5+1)))))) else(kx4 ()))
def qh(a1:(List zf))(a2:Int):Option Int:=
 (iter (qN a1 a2 jx) FU 0)
def Zf(t24:((List zi)×(List Int))):Option (zj×Int):=
 (some ((zj.mk t24.1 t24.2),0))
def yi(v8:zj)(a4:Bool)(v13:zi)(v15:Int)(a2:Int)(t17:Bool):Option (zj×Int):=
 (if t17=true then(some (v8,3)) else(if a4=true then((idx v13.Shares v15).bind fun v22=>((j6 ((zi.mk v13.Tx v13.Client v13.Req v13.State (v13.Shares.set (Int.toNat v15) (zf.mk v22.Group v22.Reads v22.Writes 1))).Shares) 0).bind fun v26=>(if v26=true then(Zf (v8.Recs.set (Int.toNat (IntKind.wrap .i64 (a2 - 1))) (zi.mk v13.Tx v13.Client v13.Req v13.State (v13.Shares.set (Int.toNat v15) (zf.mk v22.Group v22.Reads v22.Writes 1))),v8.Order)) else(if (v8.Order++([a2])).length≤2147483648 then(Zf ((v8.Recs.set (Int.toNat (IntKind.wrap .i64 (a2 - 1))) (zi.mk v13.Tx v13.Client v13.Req v13.State (v13.Shares.set (Int.toNat v15) (zf.mk v22.Group v22.Reads v22.Writes 1)))).set (Int.toNat (IntKind.wrap .i64 (a2 - 1))) (zi.mk ((zi.mk v13.Tx v13.Client v13.Req v13.State (v13.Shares.set (Int.toNat v15) (zf.mk v22.Group v22.Reads v22.Writes 1))).Tx) ((zi.mk v13.Tx v13.Client v13.Req v13.State (v13.Shares.set (Int.toNat v15) (zf.mk v22.Group v22.Reads v22.Writes 1))).Client) ((zi.mk v13.Tx v13.Client v13.Req v13.State (v13.Shares.set (Int.toNat v15) (zf.mk v22.Group v22.Reads v22.Writes 1))).Req) 3 ((zi.mk v13.Tx v13.Client v13.Req v13.State (v13.Shares.set (Int.toNat v15) (zf.mk v22.Group v22.Reads v22.Writes 1))).Shares)),(v8.Order++([a2])))) else none)))) else((idx v13.Shares v15).bind fun v31=>(some ((zj.mk ((v8.Recs.set (Int.toNat (IntKind.wrap .i64 (a2 - 1))) (zi.mk v13.Tx v13.Client v13.Req v13.State (v13.Shares.set (Int.toNat v15) (zf.mk v31.Group v31.Reads v31.Writes 2)))).set (Int.toNat (IntKind.wrap .i64 (a2 - 1))) (zi.mk ((zi.mk v13.Tx v13.Client v13.Req v13.State (v13.Shares.set (Int.toNat v15) (zf.mk v31.Group v31.Reads v31.Writes 2))).Tx) ((zi.mk v13.Tx v13.Client v13.Req v13.State (v13.Shares.set (Int.toNat v15) (zf.mk v31.Group v31.Reads v31.Writes 2))).Client) ((zi.mk v13.Tx v13.Client v13.Req v13.State (v13.Shares.set (Int.toNat v15) (zf.mk v31.Group v31.Reads v31.Writes 2))).Req) 4 ((zi.mk v13.Tx v13.Client v13.Req v13.State (v13.Shares.set (Int.toNat v15) (zf.mk v31.Group v31.Reads v31.Writes 2))).Shares))) v8.Order),0)))))
def Z1(a1:zj)(a2:Int)(a3:Int)(a4:Bool):Option (zj×Int):=
 ((jh a1).bind fun v5=>(if v5=true then((jW a1).bind fun v8=>((j5 a1 a2).bind fun v10=>(if v10=true then((idx v8.Recs (IntKind.wrap .i64 (a2 - 1))).bind fun v13=>((qh v13.Shares a3).bind fun v15=>(if ¬v13.State=2 then((yi v8 a4 v13 v15 a2) true) else((yi v8 a4 v13 v15 a2) (decide (v15 < 0)))))) else(some (v8,2))))) else(some ((zj.mk ([]:(List zi)) ([]:(List Int))),1))))
def JG(a1:Int):Option Bool:=
 (if a1=3 then(some true) else(some (decide (a1=4))))
def ZZ(a1:zj)(a2:Int):Option (zj×Int):=
 ((jh a1).bind fun v3=>(if v3=true then((jW a1).bind fun v6=>((j5 a1 a2).bind fun v8=>(if v8=true then((idx a1.Recs (IntKind.wrap .i64 (a2 - 1))).bind fun v11=>((JG v11.State).bind fun v13=>(if v13=true then(some (v6,3)) else((idx v6.Recs (IntKind.wrap .i64 (a2 - 1))).bind fun v16=>(some ((zj.mk (v6.Recs.set (Int.toNat (IntKind.wrap .i64 (a2 - 1))) (zi.mk v16.Tx v16.Client v16.Req 4 v16.Shares)) v6.Order),0)))))) else(some (v6,2))))) else(some ((zj.mk ([]:(List zi)) ([]:(List Int))),1))))
def ZH(t10:Unit):Option Bool:=
 (some true)
def qa(kb13:((Int×(List zi)×(List Int))→Option Bool))(s12:(Int×(List zi)×(List Int)))(t15:((List zi)×(List Int))):Option Bool:=
 (kb13 ((IntKind.wrap .i64 (s12.1+1)),t15.1,t15.2))
def ZI(kx16:(((List zi)×(List Int))→Option Bool))(t22:(Int×Int×(List zi)×(List Int)))(t29:Unit):Option Bool:=
 (kx16 (t22.2.2.1,t22.2.2.2))
def yF(kb32:(Int→Option Bool))(s31:Int)(t34:Bool):Option Bool:=
 (if t34=true then(some false) else(kb32 (IntKind.wrap .i64 (s31+1))))
def ZO(s12:(Int×(List zi)×(List Int)))(t22:(Int×Int×(List zi)×(List Int)))(kx30:(Unit→Option Bool))(kb32:(Int→Option Bool))(s31:Int):Option Bool:=
 (if s31≤(s12.2.1.length:Int) then((idx s12.2.1 (IntKind.wrap .i64 (s31 - 1))).bind fun v37=>(if 2 < v37.State then((jp (zj.mk t22.2.2.1 t22.2.2.2) s31).bind fun v40=>((idx s12.2.1 (IntKind.wrap .i64 (s31 - 1))).bind fun v42=>((yF kb32 s31) (decide (¬v40=v42.State))))) else((yF kb32 s31) false))) else(kx30 ()))
def ZM(s12:(Int×(List zi)×(List Int)))(t22:(Int×Int×(List zi)×(List Int)))(kx16:(((List zi)×(List Int))→Option Bool))(t27:Unit):Option Bool:=
 (iter (ZO s12 t22 (ZI kx16 t22)) FU 1)
def ZQ(s12:(Int×(List zi)×(List Int)))(t22:(Int×Int×(List zi)×(List Int)))(kx28:(Unit→Option Bool))(kb45:(Int→Option Bool))(s44:Int):Option Bool:=
 (if s44 < (s12.2.2.length:Int) then((idx t22.2.2.2 s44).bind fun v47=>((idx s12.2.2 s44).bind fun v49=>(if ¬v47=v49 then(some false) else(kb45 (IntKind.wrap .i64 (s44+1)))))) else(kx28 ()))
def jG(s12:(Int×(List zi)×(List Int)))(t22:(Int×Int×(List zi)×(List Int)))(kx16:(((List zi)×(List Int))→Option Bool))(t24:Bool):Option Bool:=
 (if t24=true then(some false) else(iter (ZQ s12 t22 (ZM s12 t22 kx16)) FU 0))
def qG(s12:(Int×(List zi)×(List Int)))(kx16:(((List zi)×(List Int))→Option Bool))(t22:(Int×Int×(List zi)×(List Int))):Option Bool:=
 (if ¬t22.1=t22.2.1 then((jG s12 t22 kx16) true) else((jh (zj.mk t22.2.2.1 t22.2.2.2)).bind fun v53=>(if v53=true then(if (t22.2.2.2.length:Int) < (s12.2.2.length:Int) then((jG s12 t22 kx16) true) else((jG s12 t22 kx16) (decide ((t22.2.2.1.length:Int) < (s12.2.1.length:Int))))) else((jG s12 t22 kx16) true))))
def ZK(a1:(List Int))(kx11:(Unit→Option Bool))(kb13:((Int×(List zi)×(List Int))→Option Bool))(s12:(Int×(List zi)×(List Int))):Option Bool:=
 (if s12.1 < 14 then((Jy a1 (IntKind.wrap .i64 (3 * s12.1))).bind fun v17=>(if ¬(IntKind.wrap .i64 ((s12.2.1.length:Int)+2))=0 then((Jy a1 (IntKind.wrap .i64 ((IntKind.wrap .i64 (3 * s12.1))+1))).bind fun v20=>(if (Int.tmod v20 4)=0 then((Jy a1 (IntKind.wrap .i64 ((IntKind.wrap .i64 (3 * s12.1))+2))).bind fun v58=>((j0 (zj.mk s12.2.1 s12.2.2) (Int.tmod v20 5) (IntKind.wrap .i64 (1+(Int.tmod v58 9)))).bind fun v60=>((Jy a1 (IntKind.wrap .i64 ((IntKind.wrap .i64 (3 * s12.1))+2))).bind fun v62=>((z5 (zj.mk s12.2.1 s12.2.2) (Int.tmod v20 5) (IntKind.wrap .i64 (1+(Int.tmod v62 9)))).bind fun v64=>((qG s12 (qa kb13 s12)) (v60.2.2,v64.2.2,v60.1.Recs,v60.1.Order)))))) else(if (Int.tmod v20 4)=1 then(if 200 < v20 then((yd (zj.mk s12.2.1 s12.2.2) (Int.tmod v17 (IntKind.wrap .i64 ((s12.2.1.length:Int)+2))) ([]:(List zf))).bind fun v68=>((qc (zj.mk s12.2.1 s12.2.2) (Int.tmod v17 (IntKind.wrap .i64 ((s12.2.1.length:Int)+2))) ([]:(List zf))).bind fun v70=>((qG s12 (qa kb13 s12)) (v68.2,v70.2,v68.1.Recs,v68.1.Order)))) else((yd (zj.mk s12.2.1 s12.2.2) (Int.tmod v17 (IntKind.wrap .i64 ((s12.2.1.length:Int)+2))) ([(zf.mk (Int.tmod v20 3) ([]:List qi) ([(qj.mk 1 2)]) 0)])).bind fun v72=>((qc (zj.mk s12.2.1 s12.2.2) (Int.tmod v17 (IntKind.wrap .i64 ((s12.2.1.length:Int)+2))) ([(zf.mk (Int.tmod v20 3) ([]:List qi) ([(qj.mk 1 2)]) 0)])).bind fun v74=>((qG s12 (qa kb13 s12)) (v72.2,v74.2,v72.1.Recs,v72.1.Order))))) else(if (Int.tmod v20 4)=2 then((Z1 (zj.mk s12.2.1 s12.2.2) (Int.tmod v17 (IntKind.wrap .i64 ((s12.2.1.length:Int)+2))) (Int.tmod v20 3) (decide (v20 < 200))).bind fun v77=>((z9 (zj.mk s12.2.1 s12.2.2) (Int.tmod v17 (IntKind.wrap .i64 ((s12.2.1.length:Int)+2))) (Int.tmod v20 3) (decide (v20 < 200))).bind fun v79=>((qG s12 (qa kb13 s12)) (v77.2,v79.2,v77.1.Recs,v77.1.Order)))) else((ZZ (zj.mk s12.2.1 s12.2.2) (Int.tmod v17 (IntKind.wrap .i64 ((s12.2.1.length:Int)+2)))).bind fun v81=>((qK (zj.mk s12.2.1 s12.2.2) (Int.tmod v17 (IntKind.wrap .i64 ((s12.2.1.length:Int)+2)))).bind fun v83=>((qG s12 (qa kb13 s12)) (v81.2,v83.2,v81.1.Recs,v81.1.Order)))))))) else none)) else(kx11 ()))
def QA(a1:(List Int)):Option Bool:=
 ((xw a1).bind fun v2=>(if v2=true then(some true) else((yj a1).bind fun v5=>((jv v5).bind fun v7=>(if v7=true then(iter (ZK a1 ZH) FU (0,v5.Recs,v5.Order)) else((jh v5).bind fun v85=>(if v85=true then(some false) else((jp v5 1).bind fun v88=>(some (decide (v88=0)))))))))))
abbrev yC(x:zf):List C:=[(dI x.Group),(.d (.sl 2 (List.map z4 x.Reads))),(.d (.sl 2 (List.map zW x.Writes))),(dI x.Vote)]
abbrev y6(x:zi):List C:=[(dI x.Tx),(dI x.Client),(dI x.Req),(dI x.State),(.d (.sl 4 (List.map zg x.Shares)))]
abbrev zx(x:zj):List C:=[(.d (.sl 5 (List.map zh x.Recs))),(.d (.sl 1 (List.map zr x.Order)))]
end Go.AW
